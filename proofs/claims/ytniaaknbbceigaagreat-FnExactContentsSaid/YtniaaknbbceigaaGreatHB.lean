/- Plain facts. -/
import Derived.Test.YtniaaknbbceigaaGreatW2
set_option linter.all false
namespace Go.V
def yg (sp:aa)(i:Int):Nat->List Int
 |0=>[]
 |n+1=>yg sp i n++(if hsB (af sp i 2) n then[aaI (af sp i 0) (af sp i 1) (af sp i 2) n]else[])
def wZ (sp:aa):Nat->List Int
 |0=>[]
 |n+1=>wZ sp n++yg sp n (slN (af sp n 1)).toNat
def zT (lg:aa):Nat->List Int
 |0=>[]
 |n+1=>zT lg n++[af lg n 0*16]
def LO (sp lg:aa):List Int:=wZ sp sp.length++zT lg lg.length
def iaL (sp lg:aa):aa:=if layOk sp lg then srtL (fA (LO sp lg))else[]
theorem AF {a b:Int}(h: -9223372036854775808<=a*b/\a*b<=9223372036854775807):bu .mul .i64 a b=a*b:=IntWalk.i64_in _ h
theorem zq {l:aa}:(srtL l).length=l.length:=by unfold srtL;rw[bW,List.length_mergeSort];unfold lW;rw[List.length_map]
def Lc (l:List Int):Prop:=∀ x∈l,-1<=x/\x<=1000
theorem Bs {a b:List Int}(h:Lc a)(g:Lc b):Lc (a++b):=fun x hx=>by
 rcases List.mem_append.1 hx with q|q
 ·exact h x q
 ·exact g x q
theorem Jp {x:Int}(h: -1<=x/\x<=1000):Lc [x]:=fun y hy=>by simp at hy;rw[hy];exact h
theorem RS {p k b s:Int}: -1<=aaI p k b s/\aaI p k b s<=1000:=by
 unfold aaI;by_cases h:K9 p k b s=true
 ·rw[if_pos h];unfold K9 at h;simp only[Bool.and_eq_true]at h;have t:=fh h.1;have c:=fD t.2.2.1;have s1:=bE.1 h.2;have m0:0<=s*clsSz k:=Int.mul_nonneg (by omega) (by omega);have m1:s*clsSz k<=slN k*clsSz k:=Int.mul_le_mul_of_nonneg_right (by omega) (by omega);omega
 ·rw[if_neg h];omega
theorem wY {sp:aa}{i k:Int}(h:0<=k):yg sp i (k+1).toNat=yg sp i k.toNat++(if hsB (af sp i 2) k then[aaI (af sp i 0) (af sp i 1) (af sp i 2) k]else[]):=by
 rw[show(k+1).toNat=k.toNat+1 from by omega,yg,Int.toNat_of_nonneg h]
theorem EV {sp:aa}{i:Int}(h:0<=i):wZ sp (i+1).toNat=wZ sp i.toNat++yg sp i (slN (af sp i 1)).toNat:=by
 rw[show(i+1).toNat=i.toNat+1 from by omega,wZ,Int.toNat_of_nonneg h]
theorem Aw {lg:aa}{i:Int}(h:0<=i):zT lg (i+1).toNat=zT lg i.toNat++[af lg i 0*16]:=by
 rw[show(i+1).toNat=i.toNat+1 from by omega,zT,Int.toNat_of_nonneg h]
structure Nx (sp:aa)(i:Int)(o:aa):Prop where
 e:o=fA (wZ sp i.toNat)
 b:Lc (wZ sp i.toNat)
 l:(wZ sp i.toNat).length<=16*i.toNat
structure Hj (sp:aa)(i k:Int)(o:aa):Prop where
 e:o=fA (wZ sp i.toNat++yg sp i k.toNat)
 b:Lc (wZ sp i.toNat++yg sp i k.toNat)
 l:(wZ sp i.toNat).length<=16*i.toNat
 k:(yg sp i k.toNat).length<=k.toNat
structure Je (sp lg:aa)(j:Int)(o:aa):Prop where
 e:o=fA (wZ sp sp.length++zT lg j.toNat)
 b:Lc (wZ sp sp.length++zT lg j.toNat)
 l:(wZ sp sp.length++zT lg j.toNat).length<=16*sp.length+j.toNat
theorem Sl {sp:aa}:Nx sp 0 []:=⟨rfl,(fun x hx=>by cases hx),Nat.zero_le _⟩
theorem Sv {sp o:aa}{i:Int}(h:Nx sp i o):Hj sp i 0 o:=
 ⟨by rw[h.e];simp[yg],by simpa[yg]using h.b,h.l,Nat.zero_le _⟩
theorem LR {sp o:aa}{i k:Int}(h:Hj sp i k o):o.length<=16*i.toNat+k.toNat:=by
 have l:=h.l;have m:=h.k;rw[h.e,bW,List.length_append];omega
theorem LS {sp o:aa}{i k:Int}(h:Hj sp i k o)(k0:0<=k)(hh:hsB (af sp i 2) k=true):Hj sp i (k+1) (o++[[.i (aaI (af sp i 0) (af sp i 1) (af sp i 2) k)]]):=by
 have m:=h.k;have e:=h.e;refine⟨?_,?_,h.l,?_⟩
 ·rw[wY k0,if_pos hh, <-List.append_assoc,eo, <-e];rfl
 ·rw[wY k0,if_pos hh, <-List.append_assoc];exact Bs h.b (Jp RS)
 ·rw[wY k0,if_pos hh,List.length_append,List.length_cons,List.length_nil];omega
theorem ON {sp o:aa}{i k:Int}(h:Hj sp i k o)(k0:0<=k)(hh:hsB (af sp i 2) k=false):Hj sp i (k+1) o:=by
 have m:=h.k;have e:=h.e;have u:yg sp i (k+1).toNat=yg sp i k.toNat:=by rw[wY k0,hh];simp
 refine⟨?_,?_,h.l,?_⟩
 ·rw[u];exact e
 ·rw[u];exact h.b
 ·rw[u];omega
theorem TG {sp lg:aa}{i:Int}(hl:layOk sp lg=true)(h0:0<=i)(h1:i<sp.length):0<=slN (af sp i 1)/\slN (af sp i 1)<=16:=by
 have t:=fh ((E9 hl).1 i h0 h1);have c:=fD t.2.2.1;omega
theorem LQ {sp o:aa}{i k:Int}(h:Hj sp i k o)(i0:0<=i)(k1:k<=slN (af sp i 1))(k2:slN (af sp i 1)<=k)(hs:0<=slN (af sp i 1)/\slN (af sp i 1)<=16):Nx sp (i+1) o:=by
 have ek:k=slN (af sp i 1):=by omega
 have e:=h.e;have b:=h.b;have l:=h.l;have m:=h.k;rw[ek, <-EV i0]at e b;rw[ek]at m;refine⟨e,b,?_⟩;rw[EV i0,List.length_append];omega
theorem Sw {sp lg o:aa}{i:Int}(h:Nx sp i o)(h1:i<=sp.length)(h2:(sp.length:Int)<=i):Je sp lg 0 o:=by
 have ei:i.toNat=sp.length:=by omega
 have e:=h.e;have b:=h.b;have l:=h.l;rw[ei]at e b l;exact⟨by rw[e];simp[zT],by simpa[zT]using b,by simpa[zT]using l⟩
theorem EY {sp lg o:aa}{j:Int}(h:Je sp lg j o):o.length<=16*sp.length+j.toNat:=by
 have l:=h.l;rw[h.e,bW];exact l
theorem SG {sp lg:aa}{j:Int}(hl:layOk sp lg=true)(h0:0<=j)(h1:j<lg.length):0<=af lg j 0/\af lg j 0<=32:=by
 have t:=fH ((E9 hl).2.1 j h0 h1);have b:=gP t.1;omega
theorem OP {sp lg o:aa}{j:Int}(h:Je sp lg j o)(j0:0<=j)(hb:0<=af lg j 0/\af lg j 0<=32):Je sp lg (j+1) (o++[[.i (af lg j 0*16)]]):=by
 have e:=h.e;have l:=h.l;refine⟨?_,?_,?_⟩
 ·rw[Aw j0, <-List.append_assoc,eo, <-e];rfl
 ·rw[Aw j0, <-List.append_assoc];exact Bs h.b (Jp (by omega))
 ·rw[Aw j0, <-List.append_assoc,List.length_append,List.length_cons,List.length_nil];omega
theorem OO {sp lg o:aa}{j:Int}(h:Je sp lg j o)(h1:sp.length<=1073741824)(h2:j<=1073741824):Rw [tI] o/\o.length<=70368744177664:=by
 have l:=EY h;refine⟨?_,by omega⟩;have e:=h.e;have l2:=h.l;rw[e];exact oW (fun x hx=>by have:=h.b x hx;omega) (by omega)
theorem LU {sp lg o:aa}{j:Int}(h:Je sp lg j o)(j1:j<=lg.length)(j2:(lg.length:Int)<=j)(hl:layOk sp lg=true):srtL o=iaL sp lg:=by
 have ej:j.toNat=lg.length:=by omega
 have e:=h.e;rw[ej]at e;unfold iaL LO;rw[if_pos hl, <-e]
theorem Sn {sp lg:aa}(hl:layOk sp lg=false):([]:aa)=iaL sp lg:=by unfold iaL;rw[hl];rfl
end Go.V
namespace Go.V
theorem rZ :∀ {a b:List Int},a.Pairwise (· < ·)->b.Pairwise (· < ·)->(∀ x,x∈a↔x∈b)->a=b
 |[],[],_,_,_=>rfl
 |[],y::b,_,_,h=>by have:=(h y).2 (by simp);simp at this
 |x::a,[],_,_,h=>by have:=(h x).1 (by simp);simp at this
 | x::a,y::b,ha,hb,h=>by
   rw[List.pairwise_cons]at ha hb;have e:x=y:=by
    rcases List.mem_cons.1 ((h x).1 (by simp))with q|q
    ·exact q
    ·rcases List.mem_cons.1 ((h y).2 (by simp))with r|r
     ·exact r.symm
     ·have:=hb.1 x q;have:=ha.1 y r;omega
   subst e;rw[rZ ha.2 hb.2 (fun z=>?_)]
   constructor
   ·intro m;rcases List.mem_cons.1 ((h z).1 (by simp[m]))with q|q
    ·have:=ha.1 z m;omega
    ·exact q
   ·intro m;rcases List.mem_cons.1 ((h z).2 (by simp[m]))with q|q
    ·have:=hb.1 z m;omega
    ·exact q
theorem gY {sp:aa}{x:Int}:∀ {n:Nat},x∈ij sp n↔∃ i:Nat,i<n/\af sp i 0=x
 |0=>by simp[ij]
 | n+1=>by
   rw[ij,List.mem_append,gY,List.mem_singleton]
   constructor
   ·rintro(⟨i,h,e⟩|rfl)
    ·exact⟨i,by omega,e⟩
    ·exact⟨n,by omega,rfl⟩
   ·rintro⟨i,h,e⟩;by_cases c:i=n
    ·subst c;exact .inr e.symm
    ·exact .inl ⟨i,by omega,e⟩
theorem xm {p x:Int}:∀ {n:Nat},x∈lh p n↔p<=x/\x<p+n
 |0=>⟨(fun h=>by cases h),(fun h=>absurd h (by omega))⟩
 | n+1=>by
   rw[lh,List.mem_append,xm,List.mem_singleton];omega
theorem jd {lg:aa}{x:Int}:∀ {n:Nat},x∈ig lg n↔∃ j:Nat,j<n/\af lg j 0<=x/\x<af lg j 0+(af lg j 1).toNat
 |0=>by simp[ig]
 | n+1=>by
   rw[ig,List.mem_append,jd,xm]
   constructor
   ·rintro(⟨i,h,e⟩|h)
    ·exact⟨i,by omega,e⟩
    ·exact⟨n,by omega,h⟩
   ·rintro⟨i,h,e⟩;by_cases c:i=n
    ·subst c;exact .inr e
    ·exact .inl ⟨i,by omega,e⟩
theorem GM {sp:aa}:∀ {n:Nat},(ij sp n).Nodup->∀ i i':Nat,i<i'->i'<n->af sp i 0≠af sp i' 0
 |0,_,i,i',_,h=>by omega
 | n+1,hn,i,i',h1,h2=>by
   rw[ij,List.nodup_append]at hn;by_cases c:i'=n
   ·subst c;exact hn.2.2 _ (gY.2 ⟨i,h1,rfl⟩) _ (by simp)
   ·exact GM hn.1 i i' h1 (by omega)
theorem Fi {lg:aa}:∀ {n:Nat},(ig lg n).Nodup->∀ (j j':Nat) (x:Int),j<j'->j'<n->af lg j 0<=x->x<af lg j 0+(af lg j 1).toNat->af lg j' 0<=x->x<af lg j' 0+(af lg j' 1).toNat->False
 |0,_,j,j',x,_,h,_,_,_,_=>by omega
 | n+1,hn,j,j',x,h1,h2,a,b,c,d=>by
   rw[ig,List.nodup_append]at hn;by_cases e:j'=n
   ·subst e;exact hn.2.2 x (jd.2 ⟨j,h1,a,b⟩) x (xm.2 ⟨c,d⟩) rfl
   ·exact Fi hn.1 j j' x h1 (by omega) a b c d
structure Ha (sp lg:aa):Prop where
 s:∀ i:Nat,i<sp.length->spOk (af sp i 0) (af sp i 1) (af sp i 2)=true
 l:∀ j:Nat,j<lg.length->lgOk (af lg j 0) (af lg j 1) (af lg j 2)=true
 ss:∀ i i':Nat,i<sp.length->i'<sp.length->af sp i 0=af sp i' 0->i=i'
 sl:∀ i j:Nat,i<sp.length->j<lg.length->af lg j 0<=af sp i 0->af sp i 0<af lg j 0+af lg j 1->False
 ll:∀ (j j':Nat) (x:Int),j<lg.length->j'<lg.length->af lg j 0<=x->x<af lg j 0+af lg j 1->af lg j' 0<=x->x<af lg j' 0+af lg j' 1->j=j'
theorem Dj {sp lg:aa}(h:layOk sp lg=true):Ha sp lg:=by
 obtain⟨h1,h2,h3⟩:=E9 h;unfold rM at h3;rw[List.nodup_append]at h3;have n0:∀ j:Nat,j<lg.length->((af lg j 1).toNat:Int)=af lg j 1:=fun j hj=>by
  have t:=fH (h2 j (by omega) (by omega));have b:=gP t.1;omega
 refine⟨fun i hi=>h1 i (by omega) (by omega),fun j hj=>h2 j (by omega) (by omega),fun i i' a b e=>?_,fun i j a b c d=>?_,fun j j' x a b c d e f=>?_⟩
 ·rcases Nat.lt_trichotomy i i' with q|q|q
  ·exact absurd e (GM h3.1 i i' q b)
  ·exact q
  ·exact absurd e.symm (GM h3.1 i' i q a)
 ·exact h3.2.2 _ (gY.2 ⟨i,a,rfl⟩) _ (jd.2 ⟨j,b,c,by rw[n0 j b];exact d⟩) rfl
 ·rcases Nat.lt_trichotomy j j' with q|q|q
  ·exact(Fi h3.2.1 j j' x q b c (by rw[n0 j a];exact d) e (by rw[n0 j' b];exact f)).elim
  ·exact q
  ·exact(Fi h3.2.1 j' j x q a e (by rw[n0 j' b];exact f) c (by rw[n0 j a];exact d)).elim
theorem jX {p k b s:Int}(h:spOk p k b=true)(h0:0<=s)(h1:s<slN k):aaI p k b s=p*16+s*clsSz k/\0<=s*clsSz k/\s*clsSz k+clsSz k<=16/\1<=clsSz k:=by
 have t:=fh h;have c:=fD t.2.2.1;have a:K9 p k b s=true:=by unfold K9;rw[h,bE.2 ⟨h0,by omega⟩];rfl
 have m0:0<=s*clsSz k:=Int.mul_nonneg h0 (by omega);have m1:(s+1)*clsSz k<=slN k*clsSz k:=Int.mul_le_mul_of_nonneg_right (by omega) (by omega);rw[Int.add_mul]at m1;unfold aaI;rw[if_pos a];exact⟨rfl,m0,by omega,by omega⟩
theorem rJ {sp:aa}{i x:Int}:∀ {n:Nat},x∈yg sp i n↔∃ k:Nat,k<n/\hsB (af sp i 2) k=true/\x=aaI (af sp i 0) (af sp i 1) (af sp i 2) k
 |0=>by simp[yg]
 | n+1=>by
   rw[yg,List.mem_append,rJ]
   constructor
   ·rintro(⟨k,h,e⟩|h)
    ·exact⟨k,by omega,e⟩
    ·by_cases c:hsB (af sp i 2) n=true
     ·rw[if_pos c,List.mem_singleton]at h;exact⟨n,by omega,c,h⟩
     ·rw[if_neg c]at h;simp at h
   ·rintro⟨k,h,c,e⟩;by_cases q:k=n
    ·subst q;rw[if_pos c];exact .inr (by simp[e])
    ·exact .inl ⟨k,by omega,c,e⟩
theorem rK {sp:aa}{x:Int}:∀ {n:Nat},x∈wZ sp n↔∃ i k:Nat,i<n/\k<(slN (af sp i 1)).toNat/\hsB (af sp i 2) k=true/\x=aaI (af sp i 0) (af sp i 1) (af sp i 2) k
 |0=>by simp[wZ]
 | n+1=>by
   rw[wZ,List.mem_append,rK,rJ]
   constructor
   ·rintro(⟨i,k,h,e⟩|⟨k,h⟩)
    ·exact⟨i,k,by omega,e⟩
    ·exact⟨n,k,by omega,h⟩
   ·rintro⟨i,k,h,e⟩;by_cases q:i=n
    ·subst q;exact .inr ⟨k,e⟩
    ·exact .inl ⟨i,k,by omega,e⟩
theorem rI {lg:aa}{x:Int}:∀ {n:Nat},x∈zT lg n↔∃ j:Nat,j<n/\x=af lg j 0*16
 |0=>by simp[zT]
 | n+1=>by
   rw[zT,List.mem_append,rI,List.mem_singleton]
   constructor
   ·rintro(⟨i,h,e⟩|h)
    ·exact⟨i,by omega,e⟩
    ·exact⟨n,by omega,h⟩
   ·rintro⟨i,h,e⟩;by_cases q:i=n
    ·subst q;exact .inr e
    ·exact .inl ⟨i,by omega,e⟩
theorem Ax {sp:aa}{i:Nat}(h:spOk (af sp i 0) (af sp i 1) (af sp i 2)=true):∀ {n:Nat},n<=(slN (af sp i 1)).toNat->(yg sp i n).Nodup
 |0,_=>List.nodup_nil
 | n+1,hn=>by
   rw[yg];by_cases c:hsB (af sp i 2) n=true
   ·rw[if_pos c];refine hD (Ax h (by omega)) (fun m=>?_);obtain⟨k,k1,_,k3⟩:=rJ.1 m;have a:=jX (s:=(n:Int)) h (by omega) (by omega);have b:=jX (s:=(k:Int)) h (by omega) (by omega);have q:((k:Int)+1)*clsSz (af sp i 1)<=(n:Int)*clsSz (af sp i 1):=Int.mul_le_mul_of_nonneg_right (by omega) (by omega);rw[Int.add_mul]at q;omega
   ·rw[if_neg c,List.append_nil];exact Ax h (by omega)
theorem EU {sp lg:aa}(F:Ha sp lg):∀ {n:Nat},n<=sp.length->(wZ sp n).Nodup
 |0,_=>List.nodup_nil
 | n+1,hn=>by
   rw[wZ,List.nodup_append];refine⟨EU F (by omega),Ax (F.s n (by omega)) (Nat.le_refl _),fun x hx y hy e=>?_⟩;subst e;obtain⟨i,k,i1,k1,_,e1⟩:=rK.1 hx;obtain⟨k',k2,_,e2⟩:=rJ.1 hy;have a:=jX (s:=(k:Int)) (F.s i (by omega)) (by omega) (by omega);have b:=jX (s:=(k':Int)) (F.s n (by omega)) (by omega) (by omega);have:=F.ss i n (by omega) (by omega) (by omega);omega
theorem ET {sp lg:aa}(F:Ha sp lg):∀ {n:Nat},n<=lg.length->(zT lg n).Nodup
 |0,_=>List.nodup_nil
 | n+1,hn=>by
   rw[zT];refine hD (ET F (by omega)) (fun m=>?_);obtain⟨j,j1,e⟩:=rI.1 m;have t:=fH (F.l j (by omega));have b:=gP t.1;have t':=fH (F.l n (by omega));have b':=gP t'.1;have:=F.ll j n (af lg j 0) (by omega) (by omega) (by omega) (by omega) (by omega) (by omega);omega
theorem LP {sp lg:aa}(F:Ha sp lg):(LO sp lg).Nodup:=by
 unfold LO;rw[List.nodup_append];refine⟨EU F (Nat.le_refl _),ET F (Nat.le_refl _),fun x hx y hy e=>?_⟩;subst e;obtain⟨i,k,i1,k1,_,e1⟩:=rK.1 hx;obtain⟨j,j1,e2⟩:=rI.1 hy;have a:=jX (s:=(k:Int)) (F.s i (by omega)) (by omega) (by omega);have t:=fH (F.l j (by omega));have b:=gP t.1;exact F.sl i j i1 j1 (by omega) (by omega)
end Go.V
namespace Go.V
theorem dy {p:Int->Bool}{n:Nat}(h:0<=cF p n):cF p n<n/\p (cF p n)=true:=by
 refine⟨by rcases mR (p:=p) (n:=n)with q|q<;>omega,?_⟩;unfold cF at h ⊢;split at h
 ·rename_i j e;have q:=List.find?_some e;exact q
 ·omega
theorem gz {p:Int->Bool}{n i:Nat}(h:i<n)(hp:p i=true):0<=cF p n:=by
 unfold cF;split
 ·omega
 ·rename_i e;rw[List.find?_eq_none]at e;exact absurd hp (e i (List.mem_range.2 h))
theorem wg {sp:aa}{a i:Int}:uH sp a i=true↔zm (af sp i 0) (af sp i 1) (af sp i 2) a=true:=by
 unfold uH;rw[decide_eq_true_eq]
 constructor
 ·intro h;cases c:zm (af sp i 0) (af sp i 1) (af sp i 2) a with
  |true=>rfl
  |false=>rw[(wh c).1]at h;omega
 ·intro h;obtain⟨h1,h2,h3⟩:=oX.1 h;have cb:=fD (fh h1).2.2.1;rw[(oY h).1];exact Int.ediv_nonneg (by omega) (by omega)
def RI (sp lg:aa)(x:Int):Prop:=(∃ i k:Nat,i<sp.length/\k<(slN (af sp i 1)).toNat/\hsB (af sp i 2) k=true/\x=aaI (af sp i 0) (af sp i 1) (af sp i 2) k)\/∃ j:Nat,j<lg.length/\x=af lg j 0*16
theorem Cb {sp lg:aa}{x:Int}:x∈LO sp lg↔RI sp lg x:=by
 unfold LO RI;rw[List.mem_append,rK,rI]
theorem Lo {sp lg:aa}{a:Int}(h:0<=eS sp a):dnK sp lg a=(if hsB (af sp (eS sp a) 2) (IM sp a (eS sp a))then 1 else 2)/\dnO sp lg a=KM sp a (eS sp a):=by
 unfold dnK dnO;rw[if_pos h,if_pos h];exact⟨rfl,rfl⟩
theorem Ln {sp lg:aa}{a:Int}(h:¬ 0<=eS sp a)(g:0<=ko lg a):dnK sp lg a=3/\dnO sp lg a=O6 lg a (ko lg a):=by
 unfold dnK dnO;rw[if_neg h,if_neg h,if_pos g,if_pos g];exact⟨rfl,rfl⟩
theorem R2 {sp lg:aa}{a:Int}(h:¬ 0<=eS sp a)(g:¬ 0<=ko lg a):dnK sp lg a=0/\dnO sp lg a=0:=by
 unfold dnK dnO;rw[if_neg h,if_neg h,if_neg g,if_neg g];exact⟨rfl,rfl⟩
theorem B6 {sp lg:aa}{a:Int}(hl:layOk sp lg=true):re sp lg a=true↔dnO sp lg a=0/\(dnK sp lg a=1\/dnK sp lg a=3):=by
 unfold re dzO dzK;rw[if_pos hl,if_pos hl];simp only[Bool.and_eq_true,Bool.or_eq_true,decide_eq_true_eq]
theorem J8 {sp lg:aa}{x:Int}(F:Ha sp lg)(hl:layOk sp lg=true)(h:re sp lg x=true):RI sp lg x:=by
 obtain⟨h1,h2⟩:=(B6 hl).1 h;by_cases c:0<=eS sp x
 ·obtain⟨d1,d2⟩:=Lo (lg:=lg) c;obtain⟨b,q⟩:=dy c;change eS sp x<sp.length at b;change uH sp x (eS sp x)=true at q;rw[d1]at h2;rw[d2]at h1;generalize hF:eS sp x=f at*;obtain⟨f,rfl⟩:=Int.eq_ofNat_of_zero_le c;have bf:f<sp.length:=by omega
  have q':=wg.1 q;obtain⟨a1,a2,a3⟩:=oX.1 q';obtain⟨e1,e2⟩:=oY q';have cb:=fD (fh a1).2.2.1;have hh:hsB (af sp f 2) (IM sp x f)=true:=by
   cases c:hsB (af sp f 2) (IM sp x f)with
   |true=>rfl
   |false=>rw[c]at h2;simp at h2
  unfold KM at h1;rw[e2]at h1;unfold IM at hh;rw[e1]at hh;have dv:clsSz (af sp f 1)*((x-af sp f 0*16)/clsSz (af sp f 1))=x-af sp f 0*16:=Int.mul_ediv_cancel_of_emod_eq_zero h1;have nn:0<=(x-af sp f 0*16)/clsSz (af sp f 1):=Int.ediv_nonneg (by omega) (by omega);generalize hs:(x-af sp f 0*16)/clsSz (af sp f 1)=s at*;have lt:s<slN (af sp f 1):=by
   by_cases w:s<slN (af sp f 1)
   ·exact w
   ·have m:slN (af sp f 1)*clsSz (af sp f 1)<=s*clsSz (af sp f 1):=Int.mul_le_mul_of_nonneg_right (by omega) (by omega);rw[Int.mul_comm s]at m;omega
  obtain⟨s,rfl⟩:=Int.eq_ofNat_of_zero_le nn;have ae:=jX a1 nn lt;refine .inl ⟨f,s,bf,by omega,hh,?_⟩;have ae1:=ae.1;rw[Int.mul_comm (s:Int)]at ae1;show x=aaI (af sp f 0) (af sp f 1) (af sp f 2) s;rw[ae1];omega
 ·by_cases g:0<=ko lg x
  ·obtain⟨d1,d2⟩:=Ln c g;obtain⟨b,q⟩:=dy g;change ko lg x<lg.length at b;change vz lg x (ko lg x)=true at q;rw[d2]at h1;generalize hF:ko lg x=f at*;obtain⟨f,rfl⟩:=Int.eq_ofNat_of_zero_le g;refine .inr ⟨f,by omega,?_⟩;unfold O6 loI at h1;unfold vz at q;rw[if_pos q]at h1;show x=af lg f 0*16;omega
  ·obtain⟨d1,d2⟩:=R2 c g;rw[d1]at h2;omega
theorem JU {sp lg:aa}{x:Int}(h:0<=eS sp x):∃ f:Nat,eS sp x=f/\f<sp.length/\zm (af sp f 0) (af sp f 1) (af sp f 2) x=true:=by
 obtain⟨b,q⟩:=dy h;obtain⟨f,e⟩:=Int.eq_ofNat_of_zero_le h;refine⟨f,e,?_,?_⟩
 ·have:eS sp x<sp.length:=b;rw[e]at this;exact Int.ofNat_lt.1 this
 ·have:uH sp x (eS sp x)=true:=q;rw[e]at this;exact wg.1 this
theorem Pf {sp lg:aa}{x:Int}(F:Ha sp lg)(hl:layOk sp lg=true)(h:RI sp lg x):re sp lg x=true:=by
 rw[B6 hl];rcases h with⟨i,k,i1,k1,hh,e⟩|⟨j,j1,e⟩
 ·have a1:=F.s i i1;have cb:=fD (fh a1).2.2.1;have ae:=jX (s:=(k:Int)) a1 (by omega) (by omega);have sb:zm (af sp i 0) (af sp i 1) (af sp i 2) x=true:=oX.2 ⟨a1,by omega,by omega⟩;have c:0<=eS sp x:=gz i1 (wg.2 sb);obtain⟨f,e1,f1,f2⟩:=JU (lg:=lg) c;obtain⟨_,g2,g3⟩:=oX.1 f2;have:f=i:=F.ss f i f1 i1 (by omega);subst this;obtain⟨d1,d2⟩:=Lo (lg:=lg) c;rw[d1,d2,e1];obtain⟨y1,y2⟩:=oY sb;have xe:x-af sp f 0*16=k*clsSz (af sp f 1):=by omega
  unfold IM KM;rw[y1,y2,xe,Int.mul_ediv_cancel _ (by omega),if_pos hh];exact⟨Int.mul_emod_left _ _,.inl rfl⟩
 ·have t:=fH (F.l j j1);have b:=gP t.1;have r:=bE.1 t.1;have c:¬ 0<=eS sp x:=fun c=>by
   obtain⟨f,e1,f1,f2⟩:=JU (lg:=lg) c;obtain⟨_,g2,g3⟩:=oX.1 f2;exact F.sl f j f1 j1 (by omega) (by omega)
  have lb:lhB (af lg j 0) (af lg j 1) (af lg j 2) x=true:=Md.2 ⟨F.l j j1,by omega,by omega⟩;have g:0<=ko lg x:=gz j1 (show vz lg x j=true from lb);obtain⟨d1,d2⟩:=Ln c g;obtain⟨b1,q⟩:=dy g;change ko lg x<lg.length at b1;change vz lg x (ko lg x)=true at q;rw[d1,d2];generalize hF:ko lg x=f at*;obtain⟨f,rfl⟩:=Int.eq_ofNat_of_zero_le g;have f1:f<lg.length:=by omega
  have q':lhB (af lg f 0) (af lg f 1) (af lg f 2) x=true:=q;obtain⟨_,u1,u2⟩:=Md.1 q';have t2:=fH (F.l f f1);have b2:=gP t2.1;have:f=j:=F.ll f j (af lg j 0) f1 j1 (by omega) (by omega) (by omega) (by omega);subst this;refine⟨?_,.inr rfl⟩;show loI (af lg f 0) (af lg f 1) (af lg f 2) x=0;unfold loI;rw[if_pos lb];omega
def J7 (sp lg:aa):Nat->List Int
 |0=>[]
 |n+1=>J7 sp lg n++(if re sp lg n then[(n:Int)]else[])
theorem tN {sp lg:aa}:∀ n:Nat,Hg sp lg n=fA (J7 sp lg n)
 |0=>rfl
 | n+1=>by
   rw[Hg,J7,eo,tN n];by_cases c:re sp lg n=true
   ·rw[if_pos c,if_pos c];rfl
   ·rw[if_neg c,if_neg c];rfl
theorem mZ {sp lg:aa}{x:Int}:∀ {n:Nat},x∈J7 sp lg n↔0<=x/\x<n/\re sp lg x=true
 |0=>⟨(fun h=>by cases h),(fun h=>absurd h.2.1 (by omega))⟩
 | n+1=>by
   rw[J7,List.mem_append,mZ]
   constructor
   ·rintro(h|h)
    ·exact⟨h.1,by omega,h.2.2⟩
    ·by_cases c:re sp lg n=true
     ·rw[if_pos c,List.mem_singleton]at h;subst h;exact⟨by omega,by omega,c⟩
     ·rw[if_neg c]at h;cases h
   ·rintro⟨h1,h2,h3⟩;by_cases q:x=n
    ·subst q;rw[if_pos h3];exact .inr (by simp)
    ·exact .inl ⟨h1,by omega,h3⟩
theorem AU {sp lg:aa}:∀ n:Nat,(J7 sp lg n).Pairwise (· < ·)
 |0=>List.Pairwise.nil
 | n+1=>by
   rw[J7,List.pairwise_append];refine⟨AU n,?_,fun a ha b hb=>?_⟩
   ·by_cases c:re sp lg n=true
    ·rw[if_pos c];simp
    ·rw[if_neg c];simp
   ·have m:=mZ.1 ha;by_cases c:re sp lg n=true
    ·rw[if_pos c,List.mem_singleton]at hb;omega
    ·rw[if_neg c]at hb;cases hb
theorem Iy {l:List Int}(h:l.Nodup):(l.mergeSort fun x y=>decide (x<=y)).Pairwise (· < ·):=by
 have p:=List.pairwise_mergeSort (le:=fun x y:Int=>decide (x<=y)) (fun a b c h1 h2=>by simp only[decide_eq_true_eq]at*;omega) (fun a b=>by simp only[Bool.or_eq_true,decide_eq_true_eq];omega) l;have n:(l.mergeSort fun x y=>decide (x<=y)).Nodup:=(List.mergeSort_perm l _).nodup_iff.2 h;refine List.Pairwise.imp₂ (R:=fun a b=>decide (a<=b)=true) (S:=(· ≠ ·)) (T:=(· < ·)) (fun a b h1 h2=>?_) p n;simp only[decide_eq_true_eq]at h1;omega
theorem Ia {sp lg:aa}:iaL sp lg=laL sp lg:=by
 unfold iaL laL;by_cases hl:layOk sp lg=true
 ·rw[if_pos hl,if_pos hl];have F:=Dj hl;unfold srtL;rw[Ay,tN];refine congrArg fA (rZ (Iy (LP F)) (AU 512) (fun x=>?_));rw[(List.mergeSort_perm _ _).mem_iff,Cb,mZ]
  constructor
  ·intro h;have v:=Pf F hl h;refine⟨?_,?_,v⟩
   ·rcases h with⟨i,k,i1,k1,_,e⟩|⟨j,j1,e⟩
    ·have ae:=jX (s:=(k:Int)) (F.s i i1) (by omega) (by omega);have t:=fh (F.s i i1);omega
    ·have t:=fH (F.l j j1);omega
   ·rcases h with⟨i,k,i1,k1,_,e⟩|⟨j,j1,e⟩
    ·have ae:=jX (s:=(k:Int)) (F.s i i1) (by omega) (by omega);have t:=fh (F.s i i1);omega
    ·have t:=fH (F.l j j1);have b:=gP t.1;omega
  ·rintro⟨_,_,h⟩;exact J8 F hl h
 ·rw[if_neg hl,if_neg hl]
end Go.V
namespace Go.V
def vy (qs:aa)(a j:Int):Bool:=eqB (af qs j 0) a
def qtI (qs:aa)(a:Int):Int:=cF (vy qs a) qs.length
def qtB (qs:aa)(a:Int):Bool:=decide (0<=qtI qs a)
theorem MW {qs:aa}{a i:Int}(h:upto (bZ (vy qs a)) i)(h0:0<=i)(h1:i<qs.length)(e:af qs i 0=a):qtB qs a=true:=by
 unfold qtB qtI;rw[cO h h0 h1 (kj e)];exact decide_eq_true h0
theorem Qw {qs:aa}{a i:Int}(h:upto (bZ (vy qs a)) i)(h1:(qs.length:Int)<=i):qtB qs a=false:=by
 unfold qtB qtI;rw[cP h h1];rfl
end Go.V
namespace Go.V
structure Bj (ls:aa):Prop where
 w:Rw [.sl [tI]] ls
 l:ls.length<=1099511627776
 n:∀ i:Int,(ax ls i 0).length<=1099511627776
theorem Bj.el {ls:aa}(h:Bj ls){i:Int}(h0:0<=i)(h1:i<ls.length):Rw [tI] (ax ls i 0)/\(ax ls i 0).length<=1099511627776:=
 ⟨Rw.sub (fs:=[.sl [tI]]) h.w (by omega) rfl,h.n i⟩
end Go.V
namespace Go.V
def Dp (b:aa)(i k:Int):Bool:=inR (af (ax b i 0) k 0) 0 ((b.length:Int)-1)&&decide (0<=af (ax b i 0) k 1)
def DX (x:aa)(i k:Int):Bool:=decide (0<=af (ax x i 0) k 0)
def NL (b x:aa)(i:Int):Bool:=bU (Dp b i) (ax b i 0).length&&bU (DX x i) (ax x i 0).length
def Il (b x:aa):Nat->Int
 |0=>0
 |n+1=>Il b x n+((ax b n 0).length+(ax x n 0).length)
def mailOk (b x:aa):Bool:=inR b.length 1 4&&(decide (x.length=b.length)&&(bU (NL b x) b.length&&decide (Il b x b.length<=30)))
structure vI (b x:aa):Prop where
 bw:Rw [.sl [tI,tI]] b
 xw:Rw [.sl [tI]] x
 bl:b.length<=1099511627776
 xl:x.length<=1099511627776
 bn:∀ i:Int,(ax b i 0).length<=1099511627776
 xn:∀ i:Int,(ax x i 0).length<=1099511627776
theorem Kc {b x:aa}(h:vI b x):∀ n:Nat,0<=Il b x n/\Il b x n<=2199023255552*n
 |0=>⟨Int.le_refl _,Int.le_refl _⟩
 | n+1=>by
   have q:=Kc h n;have p1:=h.bn n;have p2:=h.xn n;rw[Il];omega
structure Ho (b x:aa)(i t:Int):Prop where
 ok:upto (NL b x) i
 t:t=Il b x i.toNat
theorem SN {b x:aa}:Ho b x 0 0:=⟨aX,rfl⟩
theorem Py {b x:aa}{i t:Int}(N:vI b x)(h:Ho b x i t)(i0:0<=i)(i1:i<=4):0<=t/\t<=8796093022208:=by
 have q:=Kc N i.toNat;have e:=h.t;omega
theorem Pz {b x:aa}{i t k j:Int}(h:Ho b x i t)(i0:0<=i)(hp:upto (Dp b i) k)(k1:((ax b i 0).length:Int)<=k)(ha:upto (DX x i) j)(j1:((ax x i 0).length:Int)<=j):Ho b x (i+1) (t+((ax b i 0).length+(ax x i 0).length)):=by
 refine⟨aP h.ok ?_,?_⟩
 ·unfold NL;rw[bg hp k1,bg ha j1];rfl
 ·rw[show(i+1).toNat=i.toNat+1 from by omega,Il, <-h.t,Int.toNat_of_nonneg i0]
theorem Mu {b x:aa}(h:inR b.length 1 4=false):mailOk b x=false:=by unfold mailOk;rw[h];rfl
theorem Mv {b x:aa}(h:(x.length:Int)≠b.length):mailOk b x=false:=by
 unfold mailOk;rw[decide_eq_false (p:=x.length=b.length) (by omega)];simp
theorem Kb {b x:aa}{i:Int}(i0:0<=i)(i1:i<b.length)(h:NL b x i=false):mailOk b x=false:=by
 unfold mailOk;rw[bB i0 i1 h];simp
theorem FE {b x:aa}{i k:Int}(i0:0<=i)(i1:i<b.length)(k0:0<=k)(k1:k<(ax b i 0).length)(h:Dp b i k=false):mailOk b x=false:=
 Kb i0 i1 (by unfold NL;rw[bB k0 k1 h];rfl)
theorem Mw {b x:aa}{i k:Int}(i0:0<=i)(i1:i<b.length)(k0:0<=k)(k1:k<(ax x i 0).length)(h:DX x i k=false):mailOk b x=false:=
 Kb i0 i1 (by unfold NL;rw[bB k0 k1 h,Bool.and_false])
theorem Mt {b x:aa}{i t:Int}(h:Ho b x i t)(h1:inR b.length 1 4=true)(h2:(x.length:Int)=b.length)(i1:i<=b.length)(i2:(b.length:Int)<=i):mailOk b x=decide (t<=30):=by
 have e:i.toNat=b.length:=by omega
 have q:=h.t;rw[e]at q;unfold mailOk;rw[h1,decide_eq_true (p:=x.length=b.length) (by omega),bg h.ok i2, <-q];rfl
theorem P3 {b:aa}{i k:Int}(h:inR (af (ax b i 0) k 0) 0 ((b.length:Int)-1)=false):Dp b i k=false:=by unfold Dp;rw[h];rfl
theorem P4 {b:aa}{i k:Int}(h:af (ax b i 0) k 1<0):Dp b i k=false:=by unfold Dp;rw[decide_eq_false (by omega),Bool.and_false]
theorem P5 {b:aa}{i k:Int}(h:inR (af (ax b i 0) k 0) 0 ((b.length:Int)-1)=true)(g:0<=af (ax b i 0) k 1):Dp b i k=true:=by unfold Dp;rw[h,decide_eq_true g];rfl
theorem RR {x:aa}{i k:Int}(h:af (ax x i 0) k 0<0):DX x i k=false:=by unfold DX;rw[decide_eq_false (by omega)]
theorem NS {x:aa}{i k:Int}(h:0<=af (ax x i 0) k 0):DX x i k=true:=by unfold DX;rw[decide_eq_true h]
end Go.V
namespace Go.V
def JQ (b:aa)(i:Int):Nat->aa
 |0=>[]
 |n+1=>JQ b i n++[[.i (af (ax b i 0) n 1)]]
def EE (b:aa):Nat->aa
 |0=>[]
 |n+1=>EE b n++JQ b n (ax b n 0).length
def Hf (x:aa):Nat->aa
 |0=>[]
 |n+1=>Hf x n++ax x n 0
def ifL (b x:aa):aa:=if mailOk b x then EE b b.length++Hf x x.length else[]
theorem Mx {b x:aa}(h:mailOk b x=true):b.length<=4/\x.length=b.length:=by
 unfold mailOk at h;simp only[Bool.and_eq_true,decide_eq_true_eq,bE]at h;omega
structure Ja (b:aa)(i:Int)(o:aa):Prop where
 e:o=EE b i.toNat
 l:o.length<=1099511627776*i.toNat
structure Jb (b:aa)(i k:Int)(o:aa):Prop where
 e:o=EE b i.toNat++JQ b i k.toNat
 l:o.length<=1099511627776*i.toNat+k.toNat
structure Jc (b x:aa)(j:Int)(o:aa):Prop where
 e:o=EE b b.length++Hf x j.toNat
 l:o.length<=1099511627776*b.length+1099511627776*j.toNat
theorem R4 {b:aa}:Ja b 0 []:=⟨rfl,Nat.zero_le _⟩
theorem R5 {b o:aa}{i:Int}(h:Ja b i o):Jb b i 0 o:=⟨by rw[h.e];simp[JQ],by have:=h.l;omega⟩
theorem Of {b o:aa}{i k:Int}(h:Jb b i k o)(k0:0<=k):Jb b i (k+1) (o++[[.i (af (ax b i 0) k 1)]]):=by
 have l:=h.l;have e:=h.e;refine⟨?_,?_⟩
 ·rw[show(k+1).toNat=k.toNat+1 from by omega,JQ,Int.toNat_of_nonneg k0, <-List.append_assoc, <-e]
 ·rw[List.length_append,List.length_cons,List.length_nil];omega
theorem Lw {b o:aa}{i k:Int}(h:Jb b i k o)(i0:0<=i)(hn:(ax b i 0).length<=1099511627776)(k1:k<=((ax b i 0).length:Int))(k2:((ax b i 0).length:Int)<=k):Ja b (i+1) o:=by
 have l:=h.l;have e:=h.e;have ek:k.toNat=(ax b i 0).length:=by omega
 refine⟨?_,by omega⟩;rw[show(i+1).toNat=i.toNat+1 from by omega,EE,Int.toNat_of_nonneg i0, <-ek];exact e
theorem R6 {b x o:aa}{i:Int}(h:Ja b i o)(i1:i<=b.length)(i2:(b.length:Int)<=i):Jc b x 0 o:=by
 have l:=h.l;have e:=h.e;have ei:i.toNat=b.length:=by omega
 rw[ei]at e l;exact⟨by rw[e];simp[Hf],by omega⟩
theorem Oj {b x o:aa}{j:Int}(h:Jc b x j o)(j0:0<=j)(hn:(ax x j 0).length<=1099511627776):Jc b x (j+1) (o++ax x j 0):=by
 have l:=h.l;have e:=h.e;refine⟨?_,?_⟩
 ·rw[show(j+1).toNat=j.toNat+1 from by omega,Hf,Int.toNat_of_nonneg j0, <-List.append_assoc, <-e]
 ·rw[List.length_append];omega
theorem LC {b x o:aa}{j:Int}(h:Jc b x j o)(hm:mailOk b x=true)(j1:j<=x.length)(j2:(x.length:Int)<=j):o=ifL b x:=by
 have e:=h.e;rw[show j.toNat=x.length from by omega]at e;unfold ifL;rw[if_pos hm];exact e
theorem SA {b x:aa}(hm:mailOk b x=false):([]:aa)=ifL b x:=by unfold ifL;rw[hm];rfl
end Go.V
namespace Go.V
structure TM (cs:aa):Prop where
 w:Rw [.sl [.sl [tI]]] cs
 l:cs.length<=1099511627776
 n:∀ i:Int,0<=i->i<cs.length->Bj (ax cs i 0)
end Go.V
namespace Go.V
theorem vK :∀ {fs:List Ty} {e:ay} {j:Nat},bY fs e->fs[j]?=some tI->∃ n,e[j]?=some (.i n)/\ -9223372036854775808<=n/\n<=9223372036854775807
 |[],_,j,_,h=>by simp at h
 |_::_,[],j,h,_=>h.elim
 | t::ts,l::ls,0,h,e=>by
   simp at e;subst e;have h1:=h.1;cases l with
   | v x=>cases x with
     |int k n=>simp only[b8]at h1;exact⟨n,by simp[h1.1],cV h1.2⟩
     |_=>simp[b8]at h1
   |_=>simp[b8]at h1
 | t::ts,l::ls,j+1,h,e=>by
   simp at e;obtain⟨n,h1,h2⟩:=vK h.2 e;exact⟨n,by simpa using h1,h2⟩
theorem tz {fs:List Ty}{es:aa}{i:Int}{j:Nat}(h:Rw fs es)(hj:fs[j]?=some tI)(h1:i.toNat<es.length): -9223372036854775808<=af es i j/\af es i j<=9223372036854775807:=by
 obtain⟨n,e,b⟩:=vK (h.at h1) hj;unfold af;rw[List.getD_eq_getElem?_getD (l:=es.getD i.toNat []),e];exact b
theorem QD {x:Int}(h: -9223372036854775808<=x/\x<=9223372036854775807):Rw [tI] [[.i x]]:=Rw.one (fs:=[tI]) ⟨⟨rfl,h⟩,trivial⟩
def NI (os:aa)(f:Nat):Nat->aa
 |0=>[]
 |n+1=>NI os f n++[[.i (af os n f)]]
def RX (ls:aa):Nat->aa
 |0=>[]
 |n+1=>RX ls n++ax ls n 0
def RF (cs:aa):Nat->aa
 |0=>[]
 |n+1=>RF cs n++RX (ax cs n 0) (ax cs n 0).length
theorem tC {es:aa}{n j:Nat}(h:n<es.length):ak (ax es n j)<=dV (es.getD n []):=by
 unfold ax;rw[Int.toNat_natCast];generalize es.getD n []=r;cases e:r[j]? with
 |none=>rw[List.getD_eq_getElem?_getD,e];exact Nat.zero_le _
 | some l=>
   rw[List.getD_eq_getElem?_getD,e];have q:=BC e;cases l with
   |s sz es=>exact q
   |_=>exact Nat.zero_le _
theorem iS {es:aa}{n:Nat}(h:n<es.length):bA (es.take (n+1))=bA (es.take n)+dV (es.getD n []):=by
 rw[dJ (d:=[]) h,dU];simp[bA]
theorem yC {es:aa}{n:Nat}:bA (es.take n)<=bA es:=by
 conv=>rhs;rw[<-List.take_append_drop n es,dU]
 omega
theorem mS {b:aa}{i:Int}:∀ n,(JQ b i n).length=n
 |0=>rfl
 |n+1=>by rw[JQ,List.length_append,mS n];rfl
theorem FK {b x:aa}:∀ n:Nat,(((EE b n).length+(Hf x n).length:Nat):Int)=Il b x n
 |0=>rfl
 | n+1=>by
   have q:=FK (b:=b) (x:=x) n;rw[Il,EE,Hf,List.length_append,List.length_append,mS, <-q];omega
theorem tH {b x:aa}:(ifL b x).length<=30:=by
 unfold ifL;by_cases c:mailOk b x=true
 ·rw[if_pos c,List.length_append];have t:=Mx c;unfold mailOk at c;simp only[Bool.and_eq_true,decide_eq_true_eq]at c;have q:=FK (b:=b) (x:=x) b.length;rw[t.2];omega
 ·rw[if_neg c];exact Nat.zero_le _
theorem EI {b x:aa}{i:Int}(h:vI b x)(i0:0<=i)(i1:i<b.length):∀ n,n<=(ax b i 0).length->Rw [tI] (JQ b i n)
 |0,_=>Rw.nil
 | n+1,hn=>Rw.append (EI h i0 i1 n (by omega)) (QD (tz (fs:=[tI,tI]) (Rw.sub (fs:=[.sl [tI,tI]]) h.bw (by omega) rfl) rfl (by omega))) (by
    have:=h.bn i;rw[mS];unfold maxLen;simp only[List.length_cons,List.length_nil];omega)
theorem EF {b x:aa}(h:vI b x)(hb:b.length<=4):∀ n,n<=b.length->Rw [tI] (EE b n)/\(EE b n).length<=n*1099511627776
 |0,_=>⟨Rw.nil,Nat.zero_le _⟩
 | n+1,hn=>by
   obtain⟨q1,q2⟩:=EF h hb n (by omega);have l:=h.bn n;refine⟨Rw.append q1 (EI h (by omega) (by omega) _ (Nat.le_refl _)) (by rw[mS];unfold maxLen;omega),?_⟩;rw[EE,List.length_append,mS];omega
theorem EL {b x:aa}(h:vI b x)(hb:x.length<=4):∀ n,n<=x.length->Rw [tI] (Hf x n)/\(Hf x n).length<=n*1099511627776
 |0,_=>⟨Rw.nil,Nat.zero_le _⟩
 | n+1,hn=>by
   obtain⟨q1,q2⟩:=EL h hb n (by omega);have l:=h.xn n;refine⟨Rw.append q1 (Rw.sub (fs:=[.sl [tI]]) h.xw (by omega) rfl) (by unfold maxLen;omega),?_⟩;rw[Hf,List.length_append];omega
theorem yN {b x:aa}(h:vI b x):Rw [tI] (ifL b x):=by
 unfold ifL;by_cases c:mailOk b x=true
 ·rw[if_pos c];have t:=Mx c;obtain⟨q1,l1⟩:=EF h t.1 b.length (Nat.le_refl _);obtain⟨q2,l2⟩:=EL h (by omega) x.length (Nat.le_refl _);exact Rw.append q1 q2 (by unfold maxLen;omega)
 ·rw[if_neg c];exact Rw.nil
structure wx (sp lg os cs b x qs:aa):Prop where
 sw:Rw [tI,tI,tI] sp
 lw:Rw [tI,tI,tI] lg
 ow:Rw [tI,tI,tI,tI] os
 cw:Rw [.sl [.sl [tI]]] cs
 qw:Rw [tI,tI,tI] qs
 m:vI b x
 c:TM cs
 sl:sp.length<=1073741824
 ll:lg.length<=1073741824
 ol:os.length<=1073741824
 ql:qs.length<=1073741824
 cl:ak cs<=1073741824
structure Uc (os:aa)(i:Int)(o:aa):Prop where
 e:o=NI os 1 i.toNat
structure Ud (os cs:aa)(i:Int)(o:aa):Prop where
 e:o=NI os 1 os.length++RF cs i.toNat
structure Ue (os cs:aa)(i k:Int)(o:aa):Prop where
 e:o=NI os 1 os.length++RF cs i.toNat++RX (ax cs i 0) k.toNat
structure Uf (os cs qs:aa)(j:Int)(o:aa):Prop where
 e:o=NI os 1 os.length++RF cs cs.length++NI qs 0 j.toNat
section
variable {sp lg os cs b x qs o : aa} {i k j : Int}
end
def HX (e:ay):Int:=SF (e.getD 0 .g)
theorem tE {l:aa}{a:Int}:hasB l a=true↔a∈l.map HX:=by
 rw[jJ,List.mem_map]
 constructor
 ·rintro⟨k,hk,e⟩;refine⟨l[k],List.getElem_mem _,?_⟩;rw[<-e];unfold af HX;rw[Int.toNat_natCast,List.getD_eq_getElem?_getD (l:=l),List.getElem?_eq_getElem hk];rfl
 ·rintro⟨e,he,q⟩;obtain⟨k,hk,rfl⟩:=List.mem_iff_getElem.1 he;refine⟨k,hk,?_⟩;rw[<-q];unfold af HX;rw[Int.toNat_natCast,List.getD_eq_getElem?_getD (l:=l),List.getElem?_eq_getElem hk];rfl
theorem BJ {l m:aa}{a:Int}:hasB (l++m) a=(hasB l a||hasB m a):=by
 refine ec ?_;rw[Bool.or_eq_true,tE,tE,tE,List.map_append,List.mem_append]
theorem BK {x a:Int}:hasB [[.i x]] a=true↔x=a:=by
 rw[tE];show a∈[x]↔x=a;rw[List.mem_singleton];exact⟨Eq.symm,Eq.symm⟩
theorem oI {p:Int->Bool}{n:Nat}:0<=cF p n↔∃ k:Nat,k<n/\p k=true:=by
 constructor
 ·intro h;obtain⟨h1,h2⟩:=dy h;obtain⟨k,e⟩:=Int.eq_ofNat_of_zero_le h;rw[e]at h1 h2;exact⟨k,by omega,h2⟩
 ·rintro⟨k,h1,h2⟩;exact gz h1 h2
def TS (p:Int->Bool)(l:aa):Nat->aa
 |0=>[]
 |n+1=>TS p l n++(if p (af l n 0)then[[.i (af l n 0)]]else[])
structure T6 (p:Int->Bool)(l:aa)(i:Int)(o:aa):Prop where
 e:o=TS p l i.toNat
 l:o.length<=i.toNat
section
variable {p : Int -> Bool} {l o : aa} {i : Int}
end
theorem E7 {sp lg:aa}:(laL sp lg).length<=512:=by
 have k:∀ n,(Hg sp lg n).length<=n:=by
  intro n
  induction n with
  |zero=>exact Nat.le_refl _
  |succ n ih=>rw[Hg,List.length_append];split<;>simp<;>omega
 unfold laL;split
 ·exact k 512
 ·exact Nat.zero_le _
theorem OY {sp lg:aa}:Rw [tI] (laL sp lg):=by
 unfold laL;by_cases c:layOk sp lg=true
 ·rw[if_pos c,tN];refine oW (fun x hx=>?_) ?_
  ·have:=mZ.1 hx;omega
  ·have q:=E7 (sp:=sp) (lg:=lg);unfold laL at q;rw[if_pos c,tN,bW]at q;omega
 ·rw[if_neg c];exact Rw.nil
theorem lH {l:aa}{i:Int}(h:Rw [tI] l)(h0:0<=i)(h1:i<l.length):∃ rec o,bT (L.s 1 l) [(i.toNat,0)]=some (rec,o)/\o+[L.v (Value.int IntKind.i64 0)].length<=rec.length/\List.take [L.v (Value.int IntKind.i64 0)].length (List.drop o rec)=km ai (L.s 1 l) [(i.toNat,0)] 0 [L.v (Value.int IntKind.i64 0)]:=
 zh (z0:=[.i 0]) (z:=[.i 0]) h.wf (by omega) rfl (by decide)
theorem wV {es:aa}{i:Int}{j:Nat}:ak (ax es i j)<=ak es:=by
 by_cases c:i.toNat<es.length
 ·have q:=tC (j:=j) c;rw[show ax es (i.toNat:Nat) j=ax es i j from by unfold ax;rw[Int.toNat_natCast]]at q;have d:=iS c;have e:=yC (es:=es) (n:=i.toNat+1);unfold ak at q ⊢;omega
 ·have e:ax es i j=[]:=by
   unfold ax;rw[List.getD_eq_getElem?_getD (l:=es),List.getElem?_eq_none (by omega)];simp[Fg]
  rw[e];exact Nat.zero_le _
theorem MG {ls:aa}(h:Rw [.sl [tI]] ls)(hc:ak ls<=1073741824):Bj ls:=by
 refine⟨h,by unfold ak at hc;omega,fun i=>?_⟩;have:=wV (es:=ls) (i:=i) (j:=0);unfold ak at this hc;omega
theorem ME {cs:aa}(h:Rw [.sl [.sl [tI]]] cs)(hc:ak cs<=1073741824):TM cs:=by
 refine⟨h,by unfold ak at hc;omega,fun i i0 i1=>MG (Rw.sub (fs:=[.sl [.sl [tI]]]) h (by omega) rfl) ?_⟩;exact Nat.le_trans wV hc
theorem MH {b x:aa}(hb:Rw [.sl [tI,tI]] b)(hx:Rw [.sl [tI]] x)(cb:ak b<=1073741824)(cx:ak x<=1073741824):vI b x:=by
 refine⟨hb,hx,by unfold ak at cb;omega,by unfold ak at cx;omega,fun i=>?_,fun i=>?_⟩
 ·have:=wV (es:=b) (i:=i) (j:=0);unfold ak at this cb;omega
 ·have:=wV (es:=x) (i:=i) (j:=0);unfold ak at this cx;omega
theorem MF {sp lg os cs b x qs:aa}(hs:Rw [tI,tI,tI] sp)(hl:Rw [tI,tI,tI] lg)(ho:Rw [tI,tI,tI,tI] os)(hc:Rw [.sl [.sl [tI]]] cs)(hb:Rw [.sl [tI,tI]] b)(hx:Rw [.sl [tI]] x)(hq:Rw [tI,tI,tI] qs) 
 (cs1:ak sp<=1048576) (cl:ak lg<=1048576) (co:ak os<=1048576) (cc:ak cs<=1048576) (cb:ak b<=1048576) (cx:ak x<=1048576) (cq:ak qs<=1048576):wx sp lg os cs b x qs:=
 ⟨hs,hl,ho,hc,hq,MH hb hx (by omega) (by omega),ME hc (by omega),by unfold ak at cs1;omega,by unfold ak at cl;omega,by unfold ak at co;omega,by unfold ak at cq;omega,by omega⟩
end Go.V
namespace Go.V
theorem vB {i:Int}(h:0<=i)(h1:i<=9223372036854775807):bu .sub .i64 i 1=i-1:=cL (by omega)
theorem uq {es:aa}{i:Int}:Du es (Int.toNat 0) (R1 i 0)=es.take i.toNat:=by simp[Du,R1]
theorem cmp_eq {a b:Int}:cg .eql a b=decide (a=b):=by unfold cg;by_cases c:a=b<;>simp[c]
theorem wQ {a b:Int}:cg .neq a b=decide (a≠b):=by unfold cg;by_cases c:a=b<;>simp[c]
def rngIn (n a l:Int):Bool:=inR l 1 n&&inR a 0 (n-l)
def ri (n:Int)(rs:aa)(i:Int):Bool:=rngIn n (af rs i 0) (af rs i 1)&& !(decide (0<i)&&decide (af rs i 0<=bu .add .i64 (af rs (i-1) 0) (af rs (i-1) 1)))
def rgOk (n:Int)(rs:aa):Bool:=bU (ri n rs) rs.length&&inR n 1 32
section
variable {n i : Int} {rs : aa}
theorem MZ (i0:0<=i)(i1:i<rs.length)(h:rngIn n (af rs i 0) (af rs i 1)=false):rgOk n rs=false:=by
 unfold rgOk;rw[bB i0 i1 (by unfold ri;rw[h];rfl)];rfl
theorem M0 (i0:0<=i)(i1:i<rs.length)(h:0<i)(g:af rs i 0<=bu .add .i64 (af rs (i-1) 0) (af rs (i-1) 1)):rgOk n rs=false:=by
 unfold rgOk;rw[bB i0 i1 (by unfold ri;rw[decide_eq_true h,decide_eq_true g];simp)];rfl
theorem IE (h:rngIn n (af rs i 0) (af rs i 1)=true)(g:i<=0):ri n rs i=true:=by
 unfold ri;rw[h,decide_eq_false (by omega)];rfl
theorem IF (h:rngIn n (af rs i 0) (af rs i 1)=true)(g:bu .add .i64 (af rs (i-1) 0) (af rs (i-1) 1)<af rs i 0):ri n rs i=true:=by
 unfold ri;rw[h,decide_eq_false (p:=af rs i 0<=_) (by omega)];simp
theorem MY (h:upto (ri n rs) i)(g:(rs.length:Int)<=i):inR n 1 32=rgOk n rs:=by unfold rgOk;rw[bg h g];rfl
end
def mV (rs:aa)(p j:Int):Bool:=decide (af rs j 0<=p)&&decide (p<bu .add .i64 (af rs j 0) (af rs j 1))
def rhI (rs:aa)(p:Int):Int:=cF (mV rs p) rs.length
def rhB (rs:aa)(p:Int):Bool:=decide (0<=rhI rs p)
def rh1 (a l p:Int):Bool:=decide (a<=p)&&decide (p<bu .add .i64 a l)
theorem M1 {rs:aa}{p i:Int}(h:upto (bZ (mV rs p)) i)(h0:0<=i)(h1:i<rs.length)(a:af rs i 0<=p)(b:p<bu .add .i64 (af rs i 0) (af rs i 1)):rhB rs p=true:=by
 unfold rhB rhI;rw[cO h h0 h1 (by unfold mV;rw[decide_eq_true a,decide_eq_true b];rfl)];exact decide_eq_true h0
theorem Qz {rs:aa}{p i:Int}(h:upto (bZ (mV rs p)) i)(h1:(rs.length:Int)<=i):rhB rs p=false:=by
 unfold rhB rhI;rw[cP h h1];rfl
theorem Qx {rs:aa}{p i:Int}(a:p<af rs i 0):bZ (mV rs p) i=true:=by unfold bZ mV;rw[decide_eq_false (by omega)];rfl
theorem Qy {rs:aa}{p i:Int}(b:bu .add .i64 (af rs i 0) (af rs i 1)<=p):bZ (mV rs p) i=true:=by unfold bZ mV;rw[decide_eq_false (p:=p<_) (by omega)];simp
def mshB (p1 k1 b1 p2 k2 b2:Int):Bool:=spOk p1 k1 b1&&(spOk p2 k2 b2&&(decide (k1=k2)&&(decide (p1≠p2)&&decide (bu .and .i64 b1 b2=0))))
def MU (qs:aa):Nat->Int
 |0=>0
 |n+1=>MU qs n+clsSz (af qs n 1)
def qcI (qs:aa):Int:=MU qs qs.length
theorem BA {k:Int}:0<=clsSz k/\clsSz k<=8:=by
 unfold clsSz;repeat' split
 all_goals omega
theorem KG {qs:aa}:∀ n:Nat,0<=MU qs n/\MU qs n<=8*n
 |0=>⟨Int.le_refl _,Int.le_refl _⟩
 |n+1=>by have q:=KG (qs:=qs) n;have c:=BA (k:=af qs n 1);rw[MU];omega
structure Hp (qs:aa)(i t:Int):Prop where
 e:t=MU qs i.toNat
theorem S7 {qs:aa}:Hp qs 0 0:=⟨rfl⟩
theorem S8 {qs:aa}{i t:Int}(h:Hp qs i t)(i0:0<=i):0<=t/\t<=8*i:=by have q:=KG (qs:=qs) i.toNat;rw[<-h.e]at q;omega
theorem Qp {qs:aa}{i t:Int}(h:Hp qs i t)(i0:0<=i)(i1:i<=1099511627776):Hp qs (i+1) (bu .add .i64 t (clsSz (af qs i 1))):=by
 have b:=S8 h i0;have c:=BA (k:=af qs i 1);refine⟨?_⟩;rw[show bu .add .i64 t (clsSz (af qs i 1))=t+clsSz (af qs i 1)from bj (by omega),show(i+1).toNat=i.toNat+1 from by omega,MU, <-h.e,Int.toNat_of_nonneg i0]
theorem MV {qs:aa}{i t:Int}(h:Hp qs i t)(i1:i<=qs.length)(i2:(qs.length:Int)<=i):t=qcI qs:=by unfold qcI;rw[h.e,show i.toNat=qs.length from by omega]
def stlOk (b:aa)(a c s:Int):Bool:=inR c 0 3&&(decide (0<=a)&&(decide (0<=s)&&(!qtB b a&&(decide (b.length=0)||decide (af b (b.length-1:Int) 2<=s)))))
def zc (qs:aa)(i:Int):Bool:=stlOk (qs.take i.toNat) (af qs i 0) (af qs i 1) (af qs i 2)
def quarOk (rm:Int)(qs:aa):Bool:=bU (zc qs) qs.length&&(inR rm 0 500&&decide (qcI qs<=rm))
def staB (a c s:Int):Bool:=inR c 0 3&&(decide (0<=a)&&decide (0<=s))
theorem rE {es:aa}{n:Nat}{i:Int}{j:Nat}(h:i.toNat<n):af (es.take n) i j=af es i j:=by
 unfold af;rw[List.getD_eq_getElem?_getD (l:=es.take n),List.getElem?_take,if_pos h,List.getD_eq_getElem?_getD (l:=es)]
section
variable {rm i : Int} {qs : aa}
theorem Cy (i0:0<=i)(i1:i<qs.length)(h:zc qs i=false):quarOk rm qs=false:=by unfold quarOk;rw[bB i0 i1 h];rfl
theorem Gr (h:upto (zc qs) i)(g:(qs.length:Int)<=i):quarOk rm qs=(inR rm 0 500&&decide (qcI qs<=rm)):=by unfold quarOk;rw[bg h g];rfl
theorem Qk (h:staB (af qs i 0) (af qs i 1) (af qs i 2)=false):zc qs i=false:=by
 unfold zc stlOk;unfold staB at h
 revert h
 cases inR (af qs i 1) 0 3<;>cases decide (0<=af qs i 0)<;>cases decide (0<=af qs i 2)<;>simp
theorem Cw (i0:0<i)(i1:i<qs.length):(decide ((qs.take i.toNat).length=0)||decide (af (qs.take i.toNat) ((qs.take i.toNat).length-1:Int) 2<=af qs i 2))=decide (af qs (i-1) 2<=af qs i 2):=by
 have e:(qs.take i.toNat).length=i.toNat:=by rw[List.length_take];omega
 rw[e,rE (by omega),decide_eq_false (p:=i.toNat=0) (by omega),show((i.toNat:Nat):Int)-1=i-1 from by omega];rfl
theorem Ql (i0:0<i)(i1:i<qs.length)(h:af qs i 2<af qs (i-1) 2):zc qs i=false:=by
 unfold zc stlOk;rw[Cw i0 i1,decide_eq_false (p:=af qs (i-1) 2<=af qs i 2) (by omega)];simp
theorem Qm (h:qtB (qs.take i.toNat) (af qs i 0)=true):zc qs i=false:=by unfold zc stlOk;rw[h];simp
theorem Qn (h:staB (af qs i 0) (af qs i 1) (af qs i 2)=true)(g:qtB (qs.take i.toNat) (af qs i 0)=false)(i0:0<=i)(z:i<=0):zc qs i=true:=by
 unfold zc stlOk;unfold staB at h;simp only[Bool.and_eq_true]at h;have e:i=0:=by omega
 subst e;rw[h.1,h.2.1,h.2.2,g];rfl
theorem Qo (h:staB (af qs i 0) (af qs i 1) (af qs i 2)=true)(g:qtB (qs.take i.toNat) (af qs i 0)=false)(i0:0<i)(i1:i<qs.length)(z:af qs (i-1) 2<=af qs i 2):zc qs i=true:=by
 unfold zc stlOk;unfold staB at h;simp only[Bool.and_eq_true]at h;rw[Cw i0 i1,h.1,h.2.1,h.2.2,g,decide_eq_true z];rfl
end
def rz (ls:aa)(i:Int):Nat->List Int
 |0=>[]
 |n+1=>rz ls i n++[af (ax ls i 0) n 0]
def rB (ls:aa):Nat->List Int
 |0=>[]
 |n+1=>rB ls n++rz ls n (ax ls n 0).length
def Jt (ls:aa)(i k:Int):Bool:=inR (af (ax ls i 0) k 0) 0 511&&decide (bu .rem .i64 (af (ax ls i 0) k 0) (clsSz i)=0)
def Js (ls:aa)(i:Int):Bool:=decide ((ax ls i 0).length<=8)&&bU (Jt ls i) (ax ls i 0).length
def caOk (ls:aa):Bool:=decide (ls.length=4)&&(bU (Js ls) 4&&decide ((rB ls 4).Nodup))
theorem rA {ls:aa}{i:Int}:∀ n,(rz ls i n).length=n
 |0=>rfl
 |n+1=>by rw[rz,List.length_append,rA n];rfl
theorem Bv {ls:aa}{i:Int}:∀ (m n:Nat),n<=m->∃ r,rz ls i m=rz ls i n++r
 |0,n,h=>⟨[],by rw[show n=0 from by omega];rfl⟩
 | m+1,n,h=>by
   by_cases c:n=m+1
   ·subst c;exact⟨[],by simp⟩
   ·obtain⟨r,e⟩:=Bv (ls:=ls) (i:=i) m n (by omega);exact⟨r++[af (ax ls i 0) m 0],by rw[rz,e,List.append_assoc]⟩
theorem Bw {ls:aa}:∀ (m n:Nat),n<=m->∃ r,rB ls m=rB ls n++r
 |0,n,h=>⟨[],by rw[show n=0 from by omega];rfl⟩
 | m+1,n,h=>by
   by_cases c:n=m+1
   ·subst c;exact⟨[],by simp⟩
   ·obtain⟨r,e⟩:=Bw (ls:=ls) m n (by omega);exact⟨r++rz ls m (ax ls m 0).length,by rw[rB,e,List.append_assoc]⟩
theorem ta {ls:aa}{i k:Int}(h:0<=k):rz ls i (k+1).toNat=rz ls i k.toNat++[af (ax ls i 0) k 0]:=by
 rw[show(k+1).toNat=k.toNat+1 from by omega,rz,Int.toNat_of_nonneg h]
theorem tc {ls:aa}{i:Int}(h:0<=i):rB ls (i+1).toNat=rB ls i.toNat++rz ls i (ax ls i 0).length:=by
 rw[show(i+1).toNat=i.toNat+1 from by omega,rB,Int.toNat_of_nonneg h]
structure KV (ls:aa)(i:Int):Prop where
 ok:upto (Js ls) i
 nd:(rB ls i.toNat).Nodup
 l:i<=4
 b:∀ x∈rB ls i.toNat,0<=x/\x<=511
 n:(rB ls i.toNat).length<=8*i.toNat
structure Nr (ls:aa)(i k:Int):Prop where
 ok:upto (Js ls) i
 nd:(rB ls i.toNat++rz ls i k.toNat).Nodup
 l:i<=3
 s:(ax ls i 0).length<=8
 bk:upto (Jt ls i) k
 b:∀ x∈rB ls i.toNat++rz ls i k.toNat,0<=x/\x<=511
 n:(rB ls i.toNat).length<=8*i.toNat
section
variable {ls : aa} {i k : Int}
theorem NY :KV ls 0:=⟨aX,List.nodup_nil,by omega,(fun x hx=>by cases hx),Nat.zero_le _⟩
theorem N0 (h:KV ls i)(i0:0<=i)(c:inR i 0 3=true)(s:(ax ls i 0).length<=8):Nr ls i 0:=
 ⟨h.ok,by simpa[rz]using h.nd,(bE.1 c).2,s,aX,by simpa[rz]using h.b,h.n⟩
theorem Jy (h:Nr ls i k)(k0:0<=k)(h1:inR (af (ax ls i 0) k 0) 0 511=true)(h2:bu .rem .i64 (af (ax ls i 0) k 0) (clsSz i)=0)(h3:af (ax ls i 0) k 0∉rB ls i.toNat++rz ls i k.toNat):Nr ls i (k+1):=by
 refine⟨h.ok,?_,h.l,h.s,aP h.bk (by unfold Jt;rw[h1,decide_eq_true h2];rfl),?_,h.n⟩
 ·rw[ta k0, <-List.append_assoc];exact hD h.nd h3
 ·rw[ta k0, <-List.append_assoc];intro x hx;rcases List.mem_append.1 hx with q|q
  ·exact h.b x q
  ·simp at q;subst q;exact bE.1 h1
theorem Jv (h:Nr ls i k)(i0:0<=i)(k1:k<=((ax ls i 0).length:Int))(k2:((ax ls i 0).length:Int)<=k):KV ls (i+1):=by
 have e:k.toNat=(ax ls i 0).length:=by omega
 have nd:=h.nd;have b:=h.b;have n:=h.n;have s:=h.s;have l:=h.l;rw[e, <-tc i0]at nd b;refine⟨aP h.ok (by unfold Js;rw[decide_eq_true h.s,bg h.bk k2];rfl),nd,by omega,b,?_⟩;rw[tc i0,List.length_append,rA];omega
theorem wL (h:(ls.length:Int)≠4):caOk ls=false:=by unfold caOk;rw[decide_eq_false (by omega)];rfl
theorem Ju (i0:0<=i)(l:i<=3)(h:Js ls i=false):caOk ls=false:=by unfold caOk;rw[bB (n:=4) i0 (by omega) h];simp
theorem Ej (i0:0<=i)(h:8<(ax ls i 0).length)(l:i<=3):caOk ls=false:=Ju i0 l (by unfold Js;rw[decide_eq_false (by omega)];rfl)
theorem wM (i0:0<=i)(l:i<=3)(k0:0<=k)(k1:k<(ax ls i 0).length)(h:Jt ls i k=false):caOk ls=false:=Ju i0 l (by unfold Js;rw[bB k0 k1 h,Bool.and_false])
theorem Jw (h:inR (af (ax ls i 0) k 0) 0 511=false):Jt ls i k=false:=by unfold Jt;rw[h];rfl
theorem Jx (h:bu .rem .i64 (af (ax ls i 0) k 0) (clsSz i)≠0):Jt ls i k=false:=by unfold Jt;rw[decide_eq_false h,Bool.and_false]
theorem Ei (i0:0<=i)(l:i<=3)(k0:0<=k)(k1:k<(ax ls i 0).length)(h:af (ax ls i 0) k 0∈rB ls i.toNat++rz ls i k.toNat):caOk ls=false:=by
 obtain⟨r,e⟩:=Bw (ls:=ls) 4 (i+1).toNat (by omega);obtain⟨r2,e2⟩:=Bv (ls:=ls) (i:=i) (ax ls i 0).length (k+1).toNat (by omega);rw[tc i0,e2,ta k0]at e;have:¬ (rB ls 4).Nodup:=dup (a:=rB ls i.toNat++rz ls i k.toNat) (b:=r2++r) (x:=af (ax ls i 0) k 0) (by rw[e];simp only[List.append_assoc];rfl) h;unfold caOk;rw[decide_eq_false this];simp
theorem Ek (h:KV ls i)(h1:(ls.length:Int)=4)(i2:4<=i):caOk ls=true:=by
 have l:=h.l;have e:i=4:=by omega
 subst e;unfold caOk;rw[decide_eq_true (by omega),bg h.ok (by omega),decide_eq_true (p:=(rB ls 4).Nodup) h.nd];rfl
theorem Lf (h:KV ls i)(i1:i<=ls.length)(i2:(ls.length:Int)<=i):decide ((ls.length:Int)=4)=caOk ls:=by
 by_cases c:(ls.length:Int)=4
 ·rw[Ek h c (by omega)];exact decide_eq_true c
 ·rw[wL c];exact decide_eq_false c
end
structure NR (ls:aa)(i:Int)(o:aa):Prop where
 p:KV ls i
 e:o=fA (rB ls i.toNat)
structure Jm (ls:aa)(i k:Int)(o:aa):Prop where
 p:Nr ls i k
 e:o=fA (rB ls i.toNat++rz ls i k.toNat)
structure zW (ls:aa)(i:Int)(es:aa):Prop where
 p:KV ls i
 s:lD es (rB ls i.toNat)
structure zX (ls:aa)(i k:Int)(es:aa):Prop where
 p:Nr ls i k
 s:lD es (rB ls i.toNat++rz ls i k.toNat)
section
variable {ls o es : aa} {i k : Int}
theorem TC :NR ls 0 []:=⟨NY,rfl⟩
theorem TD (h:NR ls i o)(i0:0<=i)(i1:i<4)(s:(ax ls i 0).length<=8):Jm ls i 0 o:=⟨N0 h.p i0 (bE.2 (by omega)) s,by rw[h.e];simp[rz]⟩
theorem QR (h:Jm ls i k o)(k0:0<=k)(h1:inR (af (ax ls i 0) k 0) 0 511=true)(h2:bu .rem .i64 (af (ax ls i 0) k 0) (clsSz i)=0)(h3:hasB o (af (ax ls i 0) k 0)=false):Jm ls i (k+1) (o++[[.i (af (ax ls i 0) k 0)]]):=by
 have e:=h.e;rw[e]at h3;refine⟨Jy h.p k0 h1 h2 (rF h3),?_⟩;rw[ta k0, <-List.append_assoc,eo, <-e];rfl
theorem QP (h:Jm ls i k o)(i0:0<=i)(k1:k<=((ax ls i 0).length:Int))(k2:((ax ls i 0).length:Int)<=k):NR ls (i+1) o:=
 ⟨Jv h.p i0 k1 k2,by rw[tc i0,h.e,show k.toNat=(ax ls i 0).length from by omega]⟩
theorem Nb (h:Jm ls i k o)(i0:0<=i)(k0:0<=k)(k1:k<(ax ls i 0).length)(h3:hasB o (af (ax ls i 0) k 0)=true):caOk ls=false:=by
 rw[h.e,kZ]at h3;exact Ei i0 h.p.l k0 k1 h3
theorem Nc (h:Jm ls i k o)(k0:0<=k):o.length<=40+k.toNat/\Rw [tI] o:=by
 have n:=h.p.n;have l:=h.p.l;have s:=h.p.s;have q:o.length<=40+k.toNat:=by rw[h.e,bW,List.length_append,rA];omega
 refine⟨q,?_⟩;rw[h.e];have nd:=h.p.nd;refine oW (fun x hx=>by have:=h.p.b x hx;omega) ?_;rw[<-bW, <-h.e];have bd:k.toNat<=512\/512<k.toNat:=by omega
 rcases bd with bd|bd
 ·omega
 ·exfalso;have c:=List.Nodup.length_le_of_subset (l₁:=rB ls i.toNat++rz ls i k.toNat) (l₂:=(List.range 512).map fun j:Nat=>(j:Int)) nd (fun x hx=>by
   have b:=h.p.b x hx;rw[List.mem_map];exact⟨x.toNat,List.mem_range.2 (by omega),by omega⟩)
  rw[List.length_append,rA,List.length_map,List.length_range]at c;omega
theorem OQ :zW ls 0 []:=⟨NY,AZ⟩
theorem OR (h:zW ls i es)(i0:0<=i)(c:inR i 0 3=true)(s:(ax ls i 0).length<=8):zX ls i 0 es:=⟨N0 h.p i0 c s,by simpa[rz]using h.s⟩
theorem LW (h:zX ls i k es)(k0:0<=k)(h1:inR (af (ax ls i 0) k 0) 0 511=true)(h2:bu .rem .i64 (af (ax ls i 0) k 0) (clsSz i)=0)(h3:mgbI es (af (ax ls i 0) k 0)=false):zX ls i (k+1) (iK es (af (ax ls i 0) k 0) (.v (.bool true))):=by
 refine⟨Jy h.p k0 h1 h2 (fun m=>by rw[(h.s.at_ _).2 m]at h3;cases h3),?_⟩;rw[ta k0, <-List.append_assoc];exact rR h.s
theorem LV (h:zX ls i k es)(i0:0<=i)(k1:k<=((ax ls i 0).length:Int))(k2:((ax ls i 0).length:Int)<=k):zW ls (i+1) es:=
 ⟨Jv h.p i0 k1 k2,by have s:=h.s;rw[show k.toNat=(ax ls i 0).length from by omega]at s;rw[tc i0];exact s⟩
theorem H1 (h:zX ls i k es)(i0:0<=i)(k0:0<=k)(k1:k<(ax ls i 0).length)(h3:mgbI es (af (ax ls i 0) k 0)=true):caOk ls=false:=Ei i0 h.p.l k0 k1 ((h.s.at_ _).1 h3)
theorem HZ (h:zW ls i es)(i0:0<=i)(s:8<(ax ls i 0).length)(i1:i<ls.length):caOk ls=false:=by
 by_cases c:(ls.length:Int)=4
 ·exact Ej i0 s (by omega)
 ·exact wL c
theorem H0 (h:zW ls i es)(i0:0<=i)(c:inR i 0 3=false)(i1:i<ls.length):caOk ls=false:=by
 have:=tJ.1 c;exact wL (by omega)
end
def DR (cs:aa)(i:Int):Bool:=inR (af cs i 0) 0 15&& !(decide (0<i)&&decide (af cs i 0<=af cs (i-1) 0))
def plOk (k m:Int)(cs:aa):Bool:=bU (DR cs) cs.length&&(inR k 0 31&&(inR m 0 31&&decide (k≠m)))
def jbOk (k m:Int)(cs:aa)(ph nx:Int):Bool:=plOk k m cs&&(inR ph 0 5&&inR nx 0 cs.length)
section
variable {k m i : Int} {cs : aa}
theorem Gg (i0:0<=i)(i1:i<cs.length)(h:inR (af cs i 0) 0 15=false):plOk k m cs=false:=by
 unfold plOk;rw[bB i0 i1 (by unfold DR;rw[h];rfl)];rfl
theorem Gi (i0:0<=i)(i1:i<cs.length)(h:0<i)(g:af cs i 0<=af cs (i-1) 0):plOk k m cs=false:=by
 unfold plOk;rw[bB i0 i1 (by unfold DR;rw[decide_eq_true h,decide_eq_true g];simp)];rfl
theorem Cr (h:inR (af cs i 0) 0 15=true)(g:i<=0):DR cs i=true:=by unfold DR;rw[h,decide_eq_false (by omega)];rfl
theorem Cs (h:inR (af cs i 0) 0 15=true)(g:af cs (i-1) 0<af cs i 0):DR cs i=true:=by
 unfold DR;rw[h,decide_eq_false (p:=af cs i 0<=_) (by omega)];simp
theorem xB (h:upto (DR cs) i)(g:(cs.length:Int)<=i):plOk k m cs=(inR k 0 31&&(inR m 0 31&&decide (k≠m))):=by unfold plOk;rw[bg h g];rfl
end
end Go.V
namespace Go.V
theorem JI {sp lg:aa}{a:Int}(h:layOk sp lg=true):dzK sp lg a=dnK sp lg a:=by unfold dzK;rw[if_pos h]
theorem JJ {sp lg:aa}{a:Int}(h:layOk sp lg=true):dzI sp lg a=dnI sp lg a:=by unfold dzI;rw[if_pos h]
theorem JK {sp lg:aa}{a:Int}(h:layOk sp lg=true):dzO sp lg a=dnO sp lg a:=by unfold dzO;rw[if_pos h]
theorem yE {sp lg:aa}{a:Int}(h:dnK sp lg a=1):0<=dnI sp lg a/\dnI sp lg a<sp.length:=by
 unfold dnK at h;by_cases c:0<=eS sp a
 ·unfold dnI;rw[if_pos c];rcases mR (p:=uH sp a) (n:=sp.length)with q|q
  ·have:eS sp a= -1:=q;omega
  ·exact q
 ·rw[if_neg c]at h;by_cases d:0<=ko lg a
  ·rw[if_pos d]at h;omega
  ·rw[if_neg d]at h;omega
theorem JH {sp lg:aa}{a:Int}(h:dnK sp lg a=3):0<=dnI sp lg a/\dnI sp lg a<lg.length:=by
 unfold dnK at h;by_cases c:0<=eS sp a
 ·rw[if_pos c]at h;split at h<;>omega
 ·rw[if_neg c]at h;by_cases d:0<=ko lg a
  ·unfold dnI;rw[if_neg c,if_pos d];rcases mR (p:=vz lg a) (n:=lg.length)with q|q
   ·have:ko lg a= -1:=q;omega
   ·exact q
  ·rw[if_neg d]at h;omega
def jR (os:aa)(x j:Int):Bool:=eqB (af os j 0) x
def oiI (os:aa)(x:Int):Int:=cF (jR os x) os.length
def oiB (os:aa)(x:Int):Bool:=decide (0<=oiI os x)
def okO (sp lg:aa)(a s:Int):Bool:=decide (dnO sp lg a=0)&&((decide (dnK sp lg a=1)&&decide (af sp (dnI sp lg a) 1=clsOf s))||(decide (dnK sp lg a=3)&&decide (af lg (dnI sp lg a) 2=s)))
def tY (sp lg os cs:aa)(nx i:Int):Bool:=
 !(decide (0<i)&&decide (af os i 1<=af os (i-1) 1))&&(inR (af os i 0) 1 (bu .sub .i64 nx 1)&&(inR (af os i 3) 0 (cs.length-1:Int)&&(!oiB (os.take i.toNat) (af os i 0)&&okO sp lg (af os i 1) (af os i 2))))
def objOk (sp lg os cs:aa)(nx:Int):Bool:=bU (tY sp lg os cs nx) os.length
section
variable {sp lg os cs : aa} {nx i k : Int}
theorem jM (i0:0<=i)(i1:i<os.length)(h:tY sp lg os cs nx i=false):objOk sp lg os cs nx=false:=bB i0 i1 h
theorem FU (h:upto (tY sp lg os cs nx) i)(g:(os.length:Int)<=i):objOk sp lg os cs nx=true:=bg h g
theorem Kd (h:0<i)(g:af os i 1<=af os (i-1) 1):tY sp lg os cs nx i=false:=by unfold tY;rw[decide_eq_true h,decide_eq_true g];rfl
theorem Ke (h:inR (af os i 0) 1 (bu .sub .i64 nx 1)=false):tY sp lg os cs nx i=false:=by unfold tY;rw[h];simp
theorem Kf (h:inR (af os i 3) 0 (cs.length-1:Int)=false):tY sp lg os cs nx i=false:=by unfold tY;rw[h];simp
theorem Kg (h:oiB (os.take i.toNat) (af os i 0)=true):tY sp lg os cs nx i=false:=by unfold tY;rw[h];simp
theorem Ci (h:okO sp lg (af os i 1) (af os i 2)=false):tY sp lg os cs nx i=false:=by unfold tY;rw[h];simp
theorem Ir (h1:i<=0\/af os (i-1) 1<af os i 1)(h2:inR (af os i 0) 1 (bu .sub .i64 nx 1)=true)(h3:inR (af os i 3) 0 (cs.length-1:Int)=true)(h4:oiB (os.take i.toNat) (af os i 0)=false)(h5:okO sp lg (af os i 1) (af os i 2)=true):tY sp lg os cs nx i=true:=by
 unfold tY;rw[h2,h3,h4,h5];rcases h1 with h|h
 ·rw[decide_eq_false (p:=0<i) (by omega)];rfl
 ·rw[decide_eq_false (p:=af os i 1<=af os (i-1) 1) (by omega)];simp
theorem Kl {a s:Int}(h:dnO sp lg a≠0):okO sp lg a s=false:=by unfold okO;rw[decide_eq_false h];rfl
theorem PX {a s:Int}(h1:dnK sp lg a≠1\/af sp (dnI sp lg a) 1≠clsOf s)(h2:dnK sp lg a≠3\/af lg (dnI sp lg a) 2≠s):okO sp lg a s=false:=by
 unfold okO;rcases h1 with h|h<;>rcases h2 with g|g<;>simp[h,g]
theorem Km {a s:Int}(h0:dnO sp lg a=0)(h1:dnK sp lg a=1)(h2:af sp (dnI sp lg a) 1=clsOf s):okO sp lg a s=true:=by unfold okO;rw[decide_eq_true h0,decide_eq_true h1,decide_eq_true h2];rfl
theorem Kn {a s:Int}(h0:dnO sp lg a=0)(h1:dnK sp lg a=3)(h2:af lg (dnI sp lg a) 2=s):okO sp lg a s=true:=by unfold okO;rw[decide_eq_true h0,decide_eq_true h1,decide_eq_true h2];simp
theorem MM (k0:0<=k)(k1:k<i)(i1:i<os.length)(h:af os k 0=af os i 0):oiB (os.take i.toNat) (af os i 0)=true:=by
 unfold oiB oiI;rw[decide_eq_true_eq,oI];refine⟨k.toNat,by rw[List.length_take];omega,?_⟩;unfold jR;rw[Int.toNat_of_nonneg k0,rE (by omega)];exact kj h
theorem PV {x:Int}(h:upto (fun j=> !eqB (af os j 0) x) k)(k1:i<=k)(i0:0<=i):oiB (os.take i.toNat) x=false:=by
 unfold oiB oiI;refine decide_eq_false (fun c=>?_);obtain⟨m,m1,m2⟩:=oI.1 c;rw[List.length_take]at m1;have q:=h m (by omega) (by omega);unfold jR at m2;rw[rE (by omega)]at m2;simp only at q;rw[m2]at q;cases q
end
end Go.V
namespace Go.V
def RD (es:aa):Prop:=∀ e∈es,∃ k b:Int,e=[.i k,.i b]
theorem pE {k b:Int}{es:aa}{n:Int}:db ([.i k,.i b]::es) n=if k=n then some (0,.int .i64 b)else(db es n).map fun p=>(p.1+1,p.2):=rfl
theorem kz {k b:Int}{es:aa}{n:Int}:fe ([.i k,.i b]::es) n=if k=n then b else fe es n:=by
 unfold fe;rw[pE];by_cases c:k=n
 ·rw[if_pos c,if_pos c]
 ·rw[if_neg c,if_neg c];cases db es n with
  |none=>rfl
  |some p=>obtain⟨j,v⟩:=p;cases v<;>rfl
theorem FL {k b x:Int}{es:aa}{n:Int}:iK ([.i k,.i b]::es) n (.i x)=if k=n then[.i n,.i x]::es else[.i k,.i b]::iK es n (.i x):=by
 unfold iK;rw[pE];by_cases c:k=n
 ·rw[if_pos c,if_pos c];rfl
 ·rw[if_neg c,if_neg c];cases db es n with
  |none=>rfl
  |some p=>rfl
theorem PI {x n:Int}:∀ {es:aa},RD es->RD (iK es n (.i x))/\∀ m,fe (iK es n (.i x)) m=if m=n then x else fe es m
 | [],_=>by
   refine⟨fun e he=>?_,fun m=>?_⟩
   ·have:e=[.i n,.i x]:=by simpa[iK,db]using he
    exact⟨n,x,this⟩
   ·show fe [[.i n,.i x]] m=_;rw[kz];by_cases c:m=n
    ·rw[if_pos c.symm,if_pos c]
    ·rw[if_neg (fun e=>c e.symm),if_neg c]
 | e::es,h=>by
   obtain⟨k,b,rfl⟩:=h e (by simp);have h':RD es:=fun e he=>h e (by simp[he])
   obtain⟨a1,a2⟩:=PI (x:=x) (n:=n) h';rw[FL];by_cases c:k=n
   ·rw[if_pos c];refine⟨fun e he=>?_,fun m=>?_⟩
    ·rcases List.mem_cons.1 he with rfl|he
     ·exact⟨n,x,rfl⟩
     ·exact h' e he
    ·rw[kz,kz];by_cases d:m=n
     ·rw[if_pos d.symm,if_pos d]
     ·rw[if_neg (fun e=>d e.symm),if_neg d,if_neg (fun e=>d (by rw[<-e,c]))]
   ·rw[if_neg c];refine⟨fun e he=>?_,fun m=>?_⟩
    ·rcases List.mem_cons.1 he with rfl|he
     ·exact⟨k,b,rfl⟩
     ·exact a1 e he
    ·rw[kz,kz,a2 m];by_cases d:k=m
     ·rw[if_pos d,if_pos d,if_neg (fun e=>c (d.trans e))]
     ·rw[if_neg d,if_neg d]
def huI (es:aa)(a:Int):aa:=iK es a (.i (bu .add .i64 (fe es a) 1))
structure wv (es:aa)(l:List Int):Prop where
 wf:RD es
 c:∀ m,fe es m=(l.count m:Int)
theorem RZ :wv [] []:=⟨(fun e he=>by cases he),fun m=>rfl⟩
theorem BB {es:aa}{l:List Int}{a:Int}(h:wv es l)(hl:l.length<=1099511627776):wv (huI es a) (l++[a]):=by
 have q:=PI (x:=bu .add .i64 (fe es a) 1) (n:=a) h.wf;refine⟨q.1,fun m=>?_⟩;show fe (iK es a _) m=_;have b:l.count a<=l.length:=List.count_le_length;have e:=h.c a;rw[q.2 m,List.count_append,show bu .add .i64 (fe es a) 1=fe es a+1 from bj (by omega)];by_cases c:m=a
 ·subst c;rw[if_pos rfl,e];simp
 ·rw[if_neg c,h.c m];have:[a].count m=0:=List.count_eq_zero.2 (by simpa using c);rw[this];rfl
def gB (l:aa)(f:Nat):Nat->List Int
 |0=>[]
 |n+1=>gB l f n++[af l n f]
def vr (ls:aa):Nat->List Int
 |0=>[]
 |n+1=>vr ls n++gB (ax ls n 0) 0 (ax ls n 0).length
def nL (cs:aa):Nat->List Int
 |0=>[]
 |n+1=>nL cs n++vr (ax cs n 0) (ax cs n 0).length
theorem cJ {l:aa}{f:Nat}:∀ n,(gB l f n).length=n
 |0=>rfl
 |n+1=>by rw[gB,List.length_append,cJ n];rfl
theorem ku {l:aa}{f:Nat}{i:Int}(h:0<=i):gB l f (i+1).toNat=gB l f i.toNat++[af l i f]:=by
 rw[show(i+1).toNat=i.toNat+1 from by omega,gB,Int.toNat_of_nonneg h]
theorem Er {l:aa}{i:Int}(h:0<=i):vr l (i+1).toNat=vr l i.toNat++gB (ax l i 0) 0 (ax l i 0).length:=by
 rw[show(i+1).toNat=i.toNat+1 from by omega,vr,Int.toNat_of_nonneg h]
theorem Em {l:aa}{i:Int}(h:0<=i):nL l (i+1).toNat=nL l i.toNat++vr (ax l i 0) (ax l i 0).length:=by
 rw[show(i+1).toNat=i.toNat+1 from by omega,nL,Int.toNat_of_nonneg h]
theorem k8 {l:aa}{f:Nat}{x:Int}:∀ {n},x∈gB l f n↔∃ k:Nat,k<n/\x=af l k f
 |0=>⟨(fun h=>by cases h),fun⟨k,h,_⟩=>absurd h (Nat.not_lt_zero _)⟩
 | n+1=>by
   rw[gB,List.mem_append,k8,List.mem_singleton]
   constructor
   ·rintro(⟨k,h,e⟩|e)
    ·exact⟨k,by omega,e⟩
    ·exact⟨n,by omega,e⟩
   ·rintro⟨k,h,e⟩;by_cases c:k=n
    ·subst c;exact .inr e
    ·exact .inl ⟨k,by omega,e⟩
theorem xk {ls:aa}{x:Int}:∀ {n},x∈vr ls n↔∃ k:Nat,k<n/\x∈gB (ax ls k 0) 0 (ax ls k 0).length
 |0=>⟨(fun h=>by cases h),fun⟨k,h,_⟩=>absurd h (Nat.not_lt_zero _)⟩
 | n+1=>by
   rw[vr,List.mem_append,xk]
   constructor
   ·rintro(⟨k,h,e⟩|e)
    ·exact⟨k,by omega,e⟩
    ·exact⟨n,by omega,e⟩
   ·rintro⟨k,h,e⟩;by_cases c:k=n
    ·subst c;exact .inr e
    ·exact .inl ⟨k,by omega,e⟩
theorem xj {cs:aa}{x:Int}:∀ {n},x∈nL cs n↔∃ k:Nat,k<n/\x∈vr (ax cs k 0) (ax cs k 0).length
 |0=>⟨(fun h=>by cases h),fun⟨k,h,_⟩=>absurd h (Nat.not_lt_zero _)⟩
 | n+1=>by
   rw[nL,List.mem_append,xj]
   constructor
   ·rintro(⟨k,h,e⟩|e)
    ·exact⟨k,by omega,e⟩
    ·exact⟨n,by omega,e⟩
   ·rintro⟨k,h,e⟩;by_cases c:k=n
    ·subst c;exact .inr e
    ·exact .inl ⟨k,by omega,e⟩
theorem wO {ls:aa}:∀ n,n<=ls.length->(vr ls n).length<=bA (ls.take n)
 |0,_=>Nat.zero_le _
 | n+1,h=>by
   have q:=wO n (by omega:n<=ls.length);have c:=tC (es:=ls) (n:=n) (j:=0) (by omega);unfold ak at c;rw[vr,List.length_append,cJ,iS (by omega)];omega
theorem gV {cs:aa}:∀ n,n<=cs.length->(nL cs n).length<=bA (cs.take n)
 |0,_=>Nat.zero_le _
 | n+1,h=>by
   have q:=gV n (by omega:n<=cs.length);have c:=tC (es:=cs) (n:=n) (j:=0) (by omega);have d:=wO (ls:=ax cs n 0) (ax cs n 0).length (Nat.le_refl _);rw[List.take_length]at d;unfold ak at c;rw[nL,List.length_append,iS (by omega)];omega
theorem HI {cs:aa}{i k:Int}(i0:0<=i)(i1:i<cs.length)(k1:k<=(ax cs i 0).length):(nL cs i.toNat++vr (ax cs i 0) k.toNat).length+bA ((ax cs i 0).drop k.toNat)<=bA cs:=by
 have q:=gV (cs:=cs) i.toNat (by omega);have c:=yC (es:=cs) (n:=i.toNat+1);have d:=iS (es:=cs) (n:=i.toNat) (by omega);have e:=tC (es:=cs) (n:=i.toNat) (j:=0) (by omega);rw[Int.toNat_of_nonneg i0]at e;have f:=wO (ls:=ax cs i 0) k.toNat (by omega);have g:bA (ax cs i 0)=bA ((ax cs i 0).take k.toNat)+bA ((ax cs i 0).drop k.toNat):=by rw[<-dU,List.take_append_drop]
 rw[List.length_append];unfold ak at e;omega
theorem Bz {cs:aa}{i k j:Int}(i0:0<=i)(i1:i<cs.length)(k0:0<=k)(k1:k<(ax cs i 0).length)(j0:0<=j)(j1:j<=(ax (ax cs i 0) k 0).length):(nL cs i.toNat++vr (ax cs i 0) k.toNat++gB (ax (ax cs i 0) k 0) 0 j.toNat).length<=bA cs:=by
 have q:=HI i0 i1 (by omega:k<=(ax cs i 0).length);have e:=tC (es:=ax cs i 0) (n:=k.toNat) (j:=0) (by omega);rw[Int.toNat_of_nonneg k0]at e;have d:dV ((ax cs i 0).getD k.toNat [])<=bA ((ax cs i 0).drop k.toNat):=by
  rw[List.drop_eq_getElem_cons (by omega)];rw[List.getD_eq_getElem?_getD,List.getElem?_eq_getElem (by omega)];simp[bA]
 rw[List.length_append,cJ];unfold ak at e;omega
def hlB (sp lg:aa)(a k:Int):Bool:=decide (dnK sp lg a=1)&&(decide (dnO sp lg a=0)&&(decide (k<0)||decide (af sp (dnI sp lg a) 1=k)))
def jA (sp lg l:aa)(k j:Int):Bool:=hlB sp lg (af l j 0) k
def kA (sp lg ls:aa)(k:Int):Bool:=bU (jA sp lg (ax ls k 0) k) (ax ls k 0).length
def iA (sp lg cs:aa)(i:Int):Bool:=bU (kA sp lg (ax cs i 0)) (ax cs i 0).length
def qA (sp lg qs:aa)(i:Int):Bool:=hlB sp lg (af qs i 0) (af qs i 1)
def sA (qs:aa)(c i:Int):Bool:=decide (af qs i 2<=c)
def Cz (sp lg qs:aa)(c i:Int):Bool:=qA sp lg qs i&&sA qs c i
def HY (os cs qs fl:aa):List Int:=nL cs cs.length++gB qs 0 qs.length++gB fl 0 fl.length++gB os 1 os.length
def As (os cs qs fl:aa):List Int:=gB os 1 os.length++nL cs cs.length++gB qs 0 qs.length++gB fl 0 fl.length
def Jr (l:List Int)(lv:aa)(i:Int):Bool:=decide (l.count (af lv i 0)=1)
def hoI (sp lg os cs b x qs:aa)(c:Int):Bool:=bU (iA sp lg cs) cs.length&&(bU (Cz sp lg qs c) qs.length&&(bU (jA sp lg (ifL b x) (-1)) (ifL b x).length&&bU (Jr (HY os cs qs (ifL b x)) (laL sp lg)) (laL sp lg).length))
def hoS (sp lg os cs b x qs:aa):Bool:=bU (iA sp lg cs) cs.length&&(bU (qA sp lg qs) qs.length&&(bU (jA sp lg (ifL b x) (-1)) (ifL b x).length&&(decide ((As os cs qs (ifL b x)).Nodup)&&decide ((As os cs qs (ifL b x)).length=(laL sp lg).length))))
section
variable {sp lg os cs b x qs fl es : aa} {i k j c : Int}
theorem OM (k0:0<=k)(k1:k<(ax cs i 0).length)(j0:0<=j)(j1:j<(ax (ax cs i 0) k 0).length)(h:hlB sp lg (af (ax (ax cs i 0) k 0) j 0) k=false):iA sp lg cs i=false:=
 bB k0 k1 (bB (p:=jA sp lg (ax (ax cs i 0) k 0) k) j0 j1 h)
theorem LF (i0:0<=i)(i1:i<cs.length)(h:iA sp lg cs i=false):hoI sp lg os cs b x qs c=false:=by unfold hoI;rw[bB i0 i1 h];rfl
theorem EP (i0:0<=i)(i1:i<qs.length)(h:Cz sp lg qs c i=false):hoI sp lg os cs b x qs c=false:=by unfold hoI;rw[bB i0 i1 h];simp
theorem LG (i0:0<=i)(i1:i<(ifL b x).length)(h:hlB sp lg (af (ifL b x) i 0) (-1)=false):hoI sp lg os cs b x qs c=false:=by unfold hoI;rw[bB (p:=jA sp lg (ifL b x) (-1)) i0 i1 h];simp
theorem LH (i0:0<=i)(i1:i<(laL sp lg).length)(h:Jr (HY os cs qs (ifL b x)) (laL sp lg) i=false):hoI sp lg os cs b x qs c=false:=by unfold hoI;rw[bB i0 i1 h];simp
theorem LI (i0:0<=i)(i1:i<cs.length)(h:iA sp lg cs i=false):hoS sp lg os cs b x qs=false:=by unfold hoS;rw[bB i0 i1 h];rfl
theorem LJ (i0:0<=i)(i1:i<qs.length)(h:qA sp lg qs i=false):hoS sp lg os cs b x qs=false:=by unfold hoS;rw[bB i0 i1 h];simp
theorem LK (i0:0<=i)(i1:i<(ifL b x).length)(h:hlB sp lg (af (ifL b x) i 0) (-1)=false):hoS sp lg os cs b x qs=false:=by unfold hoS;rw[bB (p:=jA sp lg (ifL b x) (-1)) i0 i1 h];simp
theorem Qu (h:hlB sp lg (af qs i 0) (af qs i 1)=false):Cz sp lg qs c i=false:=by unfold Cz qA;rw[h];rfl
theorem Qv (h:c<af qs i 2):Cz sp lg qs c i=false:=by unfold Cz sA;rw[decide_eq_false (by omega),Bool.and_false]
theorem Tj (h:hlB sp lg (af qs i 0) (af qs i 1)=true)(g:af qs i 2<=c):Cz sp lg qs c i=true:=by unfold Cz qA sA;rw[h,decide_eq_true g];rfl
structure Nt (sp lg cs:aa)(i:Int)(es:aa):Prop where
 ok:upto (iA sp lg cs) i
 c:wv es (nL cs i.toNat)
structure Nv (sp lg cs:aa)(i k:Int)(es:aa):Prop where
 ok:upto (iA sp lg cs) i
 ok2:upto (kA sp lg (ax cs i 0)) k
 c:wv es (nL cs i.toNat++vr (ax cs i 0) k.toNat)
structure Nu (sp lg cs:aa)(i k j:Int)(es:aa):Prop where
 ok:upto (iA sp lg cs) i
 ok2:upto (kA sp lg (ax cs i 0)) k
 ok3:upto (jA sp lg (ax (ax cs i 0) k 0) k) j
 c:wv es (nL cs i.toNat++vr (ax cs i 0) k.toNat++gB (ax (ax cs i 0) k 0) 0 j.toNat)
structure Nw (sp lg cs qs:aa)(t j:Int)(es:aa):Prop where
 ok:bU (iA sp lg cs) cs.length=true
 ok2:upto (Cz sp lg qs t) j
 c:wv es (nL cs cs.length++gB qs 0 j.toNat)
structure Ns (sp lg cs qs fl:aa)(t j:Int)(es:aa):Prop where
 ok:bU (iA sp lg cs) cs.length=true
 ok2:bU (Cz sp lg qs t) qs.length=true
 ok3:upto (jA sp lg fl (-1)) j
 c:wv es (nL cs cs.length++gB qs 0 qs.length++gB fl 0 j.toNat)
structure KW (sp lg os cs qs fl:aa)(t j:Int)(es:aa):Prop where
 ok:bU (iA sp lg cs) cs.length=true
 ok2:bU (Cz sp lg qs t) qs.length=true
 ok3:bU (jA sp lg fl (-1)) fl.length=true
 c:wv es (nL cs cs.length++gB qs 0 qs.length++gB fl 0 fl.length++gB os 1 j.toNat)
theorem R8 :Nt sp lg cs 0 []:=⟨aX,RZ⟩
theorem Sc (h:Nt sp lg cs i es):Nv sp lg cs i 0 es:=⟨h.ok,aX,by simpa[vr]using h.c⟩
theorem R9 (h:Nv sp lg cs i k es):Nu sp lg cs i k 0 es:=⟨h.ok,h.ok2,aX,by simpa[gB]using h.c⟩
theorem On (h:Nu sp lg cs i k j es)(i0:0<=i)(i1:i<cs.length)(k0:0<=k)(k1:k<(ax cs i 0).length)(j0:0<=j)(j1:j<(ax (ax cs i 0) k 0).length)(hc:ak cs<=1073741824)(hh:hlB sp lg (af (ax (ax cs i 0) k 0) j 0) k=true):
 Nu sp lg cs i k (j+1) (huI es (af (ax (ax cs i 0) k 0) j 0)):=by
 have l:=Bz (cs:=cs) i0 i1 k0 k1 j0 (by omega);unfold ak at hc;exact⟨h.ok,h.ok2,aP h.ok3 hh,by rw[ku j0, <-List.append_assoc];exact BB h.c (by omega)⟩
theorem Oo (h:Nu sp lg cs i k j es)(k0:0<=k)(j1:j<=((ax (ax cs i 0) k 0).length:Int))(j2:((ax (ax cs i 0) k 0).length:Int)<=j):Nv sp lg cs i (k+1) es:=by
 refine⟨h.ok,aP h.ok2 (bg h.ok3 j2),?_⟩;have c:=h.c;rw[show j.toNat=(ax (ax cs i 0) k 0).length from by omega,List.append_assoc, <-Er k0]at c;exact c
theorem Om (h:Nv sp lg cs i k es)(i0:0<=i)(k1:k<=((ax cs i 0).length:Int))(k2:((ax cs i 0).length:Int)<=k):Nt sp lg cs (i+1) es:=by
 refine⟨aP h.ok (bg h.ok2 k2),?_⟩;have c:=h.c;rw[show k.toNat=(ax cs i 0).length from by omega, <-Em i0]at c;exact c
theorem Sk (h:Nt sp lg cs i es)(i1:i<=cs.length)(i2:(cs.length:Int)<=i):Nw sp lg cs qs c 0 es:=
 ⟨bg h.ok i2,aX,by have c:=h.c;rw[show i.toNat=cs.length from by omega]at c;simpa[gB]using c⟩
theorem OJ (h:Nw sp lg cs qs c j es)(j0:0<=j)(j1:j<qs.length)(hc:ak cs<=1073741824)(hq:qs.length<=1073741824)(hh:Cz sp lg qs c j=true):Nw sp lg cs qs c (j+1) (huI es (af qs j 0)):=by
 have l:=gV (cs:=cs) cs.length (Nat.le_refl _);rw[List.take_length]at l;unfold ak at hc;refine⟨h.ok,aP h.ok2 hh,?_⟩;rw[ku j0, <-List.append_assoc];refine BB h.c ?_;rw[List.length_append,cJ];omega
theorem R7 (h:Nw sp lg cs qs c i es)(i1:i<=qs.length)(i2:(qs.length:Int)<=i):Ns sp lg cs qs fl c 0 es:=
 ⟨h.ok,bg h.ok2 i2,aX,by have c:=h.c;rw[show i.toNat=qs.length from by omega]at c;simpa[gB]using c⟩
theorem Ol (h:Ns sp lg cs qs fl c j es)(j0:0<=j)(j1:j<fl.length)(hc:ak cs<=1073741824)(hq:qs.length<=1073741824)(hf:fl.length<=30)(hh:hlB sp lg (af fl j 0) (-1)=true):Ns sp lg cs qs fl c (j+1) (huI es (af fl j 0)):=by
 have l:=gV (cs:=cs) cs.length (Nat.le_refl _);rw[List.take_length]at l;unfold ak at hc;refine⟨h.ok,h.ok2,aP h.ok3 hh,?_⟩;rw[ku j0, <-List.append_assoc];refine BB h.c ?_;rw[List.length_append,List.length_append,cJ,cJ];omega
theorem Sf (h:Ns sp lg cs qs fl c i es)(i1:i<=fl.length)(i2:(fl.length:Int)<=i):KW sp lg os cs qs fl c 0 es:=
 ⟨h.ok,h.ok2,bg h.ok3 i2,by have c:=h.c;rw[show i.toNat=fl.length from by omega]at c;simpa[gB]using c⟩
theorem Ot (h:KW sp lg os cs qs fl c j es)(j0:0<=j)(j1:j<os.length)(hc:ak cs<=1073741824)(hq:qs.length<=1073741824)(ho:os.length<=1073741824)(hf:fl.length<=30):KW sp lg os cs qs fl c (j+1) (huI es (af os j 1)):=by
 have l:=gV (cs:=cs) cs.length (Nat.le_refl _);rw[List.take_length]at l;unfold ak at hc;refine⟨h.ok,h.ok2,h.ok3,?_⟩;rw[ku j0, <-List.append_assoc];refine BB h.c ?_;rw[List.length_append,List.length_append,List.length_append,cJ,cJ,cJ];omega
structure Jd (sp lg os cs qs fl:aa)(t i:Int)(es:aa):Prop where
 p:KW sp lg os cs qs fl t os.length es
 ok:upto (Jr (HY os cs qs fl) (laL sp lg)) i
theorem Sd (h:KW sp lg os cs qs fl c i es)(i1:i<=os.length)(i2:(os.length:Int)<=i):Jd sp lg os cs qs fl c 0 es:=⟨by rw[show(os.length:Int)=i from by omega];exact h,aX⟩
theorem Oq (h:Jd sp lg os cs qs fl c i es)(m:Int):fe es m=((HY os cs qs fl).count m:Int):=by
 have q:=h.p.c.c m;rw[Int.toNat_natCast]at q;exact q
theorem Or (h:Jd sp lg os cs qs fl c i es)(e:fe es (af (laL sp lg) i 0)=1):Jd sp lg os cs qs fl c (i+1) es:=
 ⟨h.p,aP h.ok (by unfold Jr;rw[Oq h]at e;exact decide_eq_true (by omega))⟩
theorem Se (h:Jd sp lg os cs qs (ifL b x) c i es)(i0:0<=i)(i1:i<(laL sp lg).length)(e:fe es (af (laL sp lg) i 0)≠1):hoI sp lg os cs b x qs c=false:=
 LH i0 i1 (by unfold Jr;rw[Oq h]at e;exact decide_eq_false (by omega))
theorem LE (h:Jd sp lg os cs qs (ifL b x) c i es)(i2:((laL sp lg).length:Int)<=i):hoI sp lg os cs b x qs c=true:=by
 unfold hoI;rw[h.p.ok,h.p.ok2,h.p.ok3,bg h.ok i2];rfl
end
end Go.V
namespace Go.V
structure K4 (os:aa)(i:Int)(o:aa):Prop where
 e:o=fA (gB os 1 i.toNat)
structure NE (sp lg os cs:aa)(i:Int)(o:aa):Prop where
 ok:upto (iA sp lg cs) i
 e:o=fA (gB os 1 os.length++nL cs i.toNat)
structure NF (sp lg os cs:aa)(i k:Int)(o:aa):Prop where
 ok:upto (iA sp lg cs) i
 ok2:upto (kA sp lg (ax cs i 0)) k
 e:o=fA (gB os 1 os.length++(nL cs i.toNat++vr (ax cs i 0) k.toNat))
structure K5 (sp lg os cs:aa)(i k j:Int)(o:aa):Prop where
 ok:upto (iA sp lg cs) i
 ok2:upto (kA sp lg (ax cs i 0)) k
 ok3:upto (jA sp lg (ax (ax cs i 0) k 0) k) j
 e:o=fA (gB os 1 os.length++(nL cs i.toNat++vr (ax cs i 0) k.toNat++gB (ax (ax cs i 0) k 0) 0 j.toNat))
structure K6 (sp lg os cs qs:aa)(j:Int)(o:aa):Prop where
 ok:bU (iA sp lg cs) cs.length=true
 ok2:upto (qA sp lg qs) j
 e:o=fA (gB os 1 os.length++nL cs cs.length++gB qs 0 j.toNat)
structure K7 (sp lg os cs qs fl:aa)(j:Int)(o:aa):Prop where
 ok:bU (iA sp lg cs) cs.length=true
 ok2:bU (qA sp lg qs) qs.length=true
 ok3:upto (jA sp lg fl (-1)) j
 e:o=fA (gB os 1 os.length++nL cs cs.length++gB qs 0 qs.length++gB fl 0 j.toNat)
structure Hq (sp lg os cs qs fl:aa)(j:Int)(o:aa):Prop where
 ok:bU (iA sp lg cs) cs.length=true
 ok2:bU (qA sp lg qs) qs.length=true
 ok3:bU (jA sp lg fl (-1)) fl.length=true
 e:o=fA (As os cs qs fl)
 nd:((As os cs qs fl).take j.toNat).Nodup
section
variable {sp lg os cs b x qs fl o : aa} {i k j : Int}
theorem Tm :K4 os 0 []:=⟨rfl⟩
theorem Tn (h:K4 os i o):o.length=i.toNat:=by rw[h.e,bW,cJ]
theorem QE (h:K4 os i o)(i0:0<=i):K4 os (i+1) (o++[[.i (af os i 1)]]):=⟨by rw[ku i0,eo, <-h.e];rfl⟩
theorem To (h:K4 os i o)(i1:i<=os.length)(i2:(os.length:Int)<=i):NE sp lg os cs 0 o:=⟨aX,by rw[h.e,show i.toNat=os.length from by omega];simp[nL]⟩
theorem Tp (h:NE sp lg os cs i o):NF sp lg os cs i 0 o:=⟨h.ok,aX,by rw[h.e];simp[vr]⟩
theorem Tq (h:NF sp lg os cs i k o):K5 sp lg os cs i k 0 o:=⟨h.ok,h.ok2,aX,by rw[h.e];simp[gB]⟩
theorem Ts (h:K5 sp lg os cs i k j o)(i0:0<=i)(i1:i<cs.length)(k0:0<=k)(k1:k<(ax cs i 0).length)(j0:0<=j)(j1:j<=(ax (ax cs i 0) k 0).length)(hc:ak cs<=1073741824)(ho:os.length<=1073741824):o.length<=2147483648:=by
 have l:=Bz (cs:=cs) i0 i1 k0 k1 j0 j1;unfold ak at hc;rw[h.e,bW,List.length_append,cJ];omega
theorem QH (h:K5 sp lg os cs i k j o)(j0:0<=j)(hh:hlB sp lg (af (ax (ax cs i 0) k 0) j 0) k=true):K5 sp lg os cs i k (j+1) (o++[[.i (af (ax (ax cs i 0) k 0) j 0)]]):=
 ⟨h.ok,h.ok2,aP h.ok3 hh,by rw[ku j0, <-List.append_assoc (nL cs i.toNat++vr (ax cs i 0) k.toNat), <-List.append_assoc (gB os 1 os.length),eo, <-h.e];rfl⟩
theorem QG (h:K5 sp lg os cs i k j o)(k0:0<=k)(j1:j<=((ax (ax cs i 0) k 0).length:Int))(j2:((ax (ax cs i 0) k 0).length:Int)<=j):NF sp lg os cs i (k+1) o:=by
 refine⟨h.ok,aP h.ok2 (bg h.ok3 j2),?_⟩;rw[h.e,show j.toNat=(ax (ax cs i 0) k 0).length from by omega,List.append_assoc (nL cs i.toNat), <-Er k0]
theorem QF (h:NF sp lg os cs i k o)(i0:0<=i)(k1:k<=((ax cs i 0).length:Int))(k2:((ax cs i 0).length:Int)<=k):NE sp lg os cs (i+1) o:=by
 refine⟨aP h.ok (bg h.ok2 k2),?_⟩;rw[h.e,show k.toNat=(ax cs i 0).length from by omega, <-Em i0]
theorem Tt (h:NE sp lg os cs i o)(i1:i<=cs.length)(i2:(cs.length:Int)<=i):K6 sp lg os cs qs 0 o:=⟨bg h.ok i2,aX,by rw[h.e,show i.toNat=cs.length from by omega];simp[gB]⟩
theorem Tu (h:K6 sp lg os cs qs j o)(j1:j<=qs.length)(hc:ak cs<=1073741824)(ho:os.length<=1073741824)(hq:qs.length<=1073741824):o.length<=4294967296:=by
 have l:=gV (cs:=cs) cs.length (Nat.le_refl _);rw[List.take_length]at l;unfold ak at hc;rw[h.e,bW,List.length_append,List.length_append,cJ,cJ];omega
theorem QI (h:K6 sp lg os cs qs j o)(j0:0<=j)(hh:hlB sp lg (af qs j 0) (af qs j 1)=true):K6 sp lg os cs qs (j+1) (o++[[.i (af qs j 0)]]):=
 ⟨h.ok,aP h.ok2 hh,by rw[ku j0, <-List.append_assoc,eo, <-h.e];rfl⟩
theorem Tv (h:K6 sp lg os cs qs i o)(i1:i<=qs.length)(i2:(qs.length:Int)<=i):K7 sp lg os cs qs fl 0 o:=⟨h.ok,bg h.ok2 i2,aX,by rw[h.e,show i.toNat=qs.length from by omega];simp[gB]⟩
theorem Tw (h:K7 sp lg os cs qs fl j o)(j1:j<=fl.length)(hc:ak cs<=1073741824)(ho:os.length<=1073741824)(hq:qs.length<=1073741824)(hf:fl.length<=30):o.length<=4294967400:=by
 have l:=gV (cs:=cs) cs.length (Nat.le_refl _);rw[List.take_length]at l;unfold ak at hc;rw[h.e,bW,List.length_append,List.length_append,List.length_append,cJ,cJ,cJ];omega
theorem QJ (h:K7 sp lg os cs qs fl j o)(j0:0<=j)(hh:hlB sp lg (af fl j 0) (-1)=true):K7 sp lg os cs qs fl (j+1) (o++[[.i (af fl j 0)]]):=
 ⟨h.ok,h.ok2,aP h.ok3 hh,by rw[ku j0, <-List.append_assoc,eo, <-h.e];rfl⟩
theorem Tx (h:K7 sp lg os cs qs fl i o)(i1:i<=fl.length)(i2:(fl.length:Int)<=i):Hq sp lg os cs qs fl 0 o:=
 ⟨h.ok,h.ok2,bg h.ok3 i2,by rw[h.e,show i.toNat=fl.length from by omega];rfl,List.nodup_nil⟩
theorem QK (h:Hq sp lg os cs qs fl j o)(hc:ak cs<=1073741824)(ho:os.length<=1073741824)(hq:qs.length<=1073741824)(hf:fl.length<=30):o.length<=4294967400:=by
 have l:=gV (cs:=cs) cs.length (Nat.le_refl _);rw[List.take_length]at l;unfold ak at hc;rw[h.e,bW];unfold As;rw[List.length_append,List.length_append,List.length_append,cJ,cJ,cJ];omega
theorem zk {l:List Int}{n:Nat}:(fA l).take n=fA (l.take n):=by unfold fA;rw[List.map_take]
theorem xF {l:List Int}{i:Int}(h0:0<=i)(h:i<(fA l).length):∃ x,l[i.toNat]?=some x/\af (fA l) i 0=x:=by
 rw[bW]at h;have q:=oV (l:=l) (k:=i.toNat) (by omega);rw[Int.toNat_of_nonneg h0]at q;exact⟨_,List.getElem?_eq_getElem (by omega),q⟩
theorem QM (h:Hq sp lg os cs qs fl j o)(j0:0<=j)(j1:j<o.length)(hh:hasB (o.take j.toNat) (af o j 0)=false):Hq sp lg os cs qs fl (j+1) o:=by
 refine⟨h.ok,h.ok2,h.ok3,h.e,?_⟩;have e:=h.e;rw[e]at j1 hh;obtain⟨v,q1,q2⟩:=xF j0 j1;rw[zk,q2]at hh;have nm:=rF hh;rw[show(j+1).toNat=j.toNat+1 from by omega,List.take_succ,q1];exact hD h.nd nm
theorem Tz (h:Hq sp lg os cs qs (ifL b x) j o)(j0:0<=j)(j1:j<o.length)(hh:hasB (o.take j.toNat) (af o j 0)=true):hoS sp lg os cs b x qs=false:=by
 have e:=h.e;rw[e]at j1 hh;obtain⟨v,q1,q2⟩:=xF j0 j1;rw[zk,q2,kZ]at hh;have:¬ (As os cs qs (ifL b x)).Nodup:=fun nd=>by
  have lt:j.toNat<(As os cs qs (ifL b x)).length:=by rw[bW]at j1;omega
  have sp:=List.take_append_drop j.toNat (As os cs qs (ifL b x));rw[List.drop_eq_getElem_cons lt]at sp;have gv:(As os cs qs (ifL b x))[j.toNat]=v:=by rw[List.getElem?_eq_getElem lt]at q1;exact Option.some.inj q1
  rw[gv]at sp;exact dup sp.symm hh nd
 unfold hoS;rw[decide_eq_false this];simp
theorem M8 (h:Hq sp lg os cs qs (ifL b x) j o)(j2:(o.length:Int)<=j):decide ((o.length:Int)=(laL sp lg).length)=hoS sp lg os cs b x qs:=by
 have e:=h.e;have nd:=h.nd;have l:(As os cs qs (ifL b x)).length=o.length:=by rw[e,bW]
 rw[List.take_of_length_le (by omega)]at nd;unfold hoS;rw[h.ok,h.ok2,h.ok3,decide_eq_true nd,l];simp only[Bool.true_and];exact ec (by rw[decide_eq_true_eq,decide_eq_true_eq];omega)
def NH (l:List Int):Prop:=∀ v∈l,-9223372036854775808<=v/\v<=9223372036854775807
theorem xc {l m:List Int}(h:NH l)(g:NH m):NH (l++m):=fun v hv=>by
 rcases List.mem_append.1 hv with q|q
 ·exact h v q
 ·exact g v q
theorem xd {fs:List Ty}{l:aa}{f:Nat}(h:Rw fs l)(hf:fs[f]?=some tI):NH (gB l f l.length):=fun v hv=>by
 obtain⟨n,n1,rfl⟩:=k8.1 hv;exact tz h hf (by omega)
theorem L1 {ls:aa}(h:Rw [.sl [tI]] ls):NH (vr ls ls.length):=fun v hv=>by
 obtain⟨n,n1,q⟩:=xk.1 hv;exact xd (fs:=[tI]) (Rw.sub (fs:=[.sl [tI]]) h (by omega) rfl) rfl v q
theorem L0 {cs:aa}(h:Rw [.sl [.sl [tI]]] cs):NH (nL cs cs.length):=fun v hv=>by
 obtain⟨n,n1,q⟩:=xj.1 hv;exact L1 (Rw.sub (fs:=[.sl [.sl [tI]]]) h (by omega) rfl) v q
theorem QL (N:wx sp lg os cs b x qs)(h:Hq sp lg os cs qs (ifL b x) j o)(n:Nat):Rw [tI] (o.take n):=by
 have l:=QK h N.cl N.ol N.ql tH;refine Rw.take ?_ n;rw[h.e]at l ⊢;rw[bW]at l;refine oW ?_ (by omega);unfold As;exact xc (xc (xc (xd N.ow rfl) (L0 N.cw)) (xd N.qw rfl)) (xd (yN N.m) rfl)
theorem EN {a k:Int}(hl:layOk sp lg=true)(h:hlB sp lg a k=true):re sp lg a=true:=by
 unfold hlB at h;simp only[Bool.and_eq_true,decide_eq_true_eq]at h;exact(B6 hl).2 ⟨h.2.1,.inl h.1⟩
theorem PY {a s:Int}(hl:layOk sp lg=true)(h:okO sp lg a s=true):re sp lg a=true:=by
 unfold okO at h;simp only[Bool.and_eq_true,Bool.or_eq_true,decide_eq_true_eq]at h;exact(B6 hl).2 ⟨h.1,h.2.elim (fun q=>.inl q.1) (fun q=>.inr q.1)⟩
def Mk (sp lg:aa):List Int:=J7 sp lg 512
theorem OX (hl:layOk sp lg=true):laL sp lg=fA (Mk sp lg):=by unfold laL Mk;rw[if_pos hl,tN]
theorem Ii (hl:layOk sp lg=true){a:Int}:a∈Mk sp lg↔re sp lg a=true:=by
 unfold Mk;rw[mZ]
 constructor
 ·exact fun h=>h.2.2
 ·intro h;have F:=Dj hl;have v:=J8 F hl h;have r:a∈LO sp lg:=Cb.2 v;refine⟨?_,?_,h⟩
  ·rcases v with⟨i,k,i1,k1,_,e⟩|⟨j,j1,e⟩
   ·have ae:=jX (s:=(k:Int)) (F.s i i1) (by omega) (by omega);have t:=fh (F.s i i1);omega
   ·have t:=fH (F.l j j1);omega
  ·rcases v with⟨i,k,i1,k1,_,e⟩|⟨j,j1,e⟩
   ·have ae:=jX (s:=(k:Int)) (F.s i i1) (by omega) (by omega);have t:=fh (F.s i i1);omega
   ·have t:=fH (F.l j j1);have b:=gP t.1;omega
theorem MC :(Mk sp lg).Nodup:=(AU 512).imp (fun h=>by omega)
theorem Cp :(HY os cs qs fl).Perm (As os cs qs fl):=by
 unfold HY As;have q:=List.perm_append_comm (l₁:=nL cs cs.length++gB qs 0 qs.length++gB fl 0 fl.length) (l₂:=gB os 1 os.length);refine q.trans ?_;rw[List.append_assoc,List.append_assoc,List.append_assoc]
theorem FT {l m:List Int}(hm:m.Nodup)(hs:∀ v∈l,v∈m):(∀ v∈m,l.count v=1)↔l.Nodup/\l.length=m.length:=by
 constructor
 ·intro h;have nd:l.Nodup:=List.nodup_iff_count.2 (fun v=>by
   by_cases c:v∈l
   ·rw[h v (hs v c)];exact Nat.le_refl _
   ·rw[List.count_eq_zero.2 c];omega)
  refine⟨nd,?_⟩;have p:l.Perm m:=by
   rw[List.perm_ext_iff_of_nodup nd hm];intro v;refine⟨hs v,fun hv=>?_⟩;have:=h v hv;exact List.count_pos_iff.1 (by omega)
  exact p.length_eq
 ·rintro⟨nd,len⟩ v hv;have hv':v∈l:=by
   by_cases c:v∈l
   ·exact c
   ·exfalso;have q:=List.Nodup.length_le_of_subset (l₁:=v::l) (l₂:=m) (List.nodup_cons.2 ⟨c,nd⟩) (fun y hy=>by
     rcases List.mem_cons.1 hy with rfl|hy
     ·exact hv
     ·exact hs y hy)
    rw[List.length_cons]at q;omega
  have p1:=List.nodup_iff_count.1 nd v;have p2:=List.count_pos_iff.2 hv';omega
theorem cy {p:Int->Bool}{n:Nat}(h:bU p n=true):∀ k:Nat,k<n->p k=true:=fun k hk=>cI.1 h k (by omega) (by omega)
theorem IA {c:Int}:bU (Cz sp lg qs c) qs.length=(bU (qA sp lg qs) qs.length&&bU (sA qs c) qs.length):=by
 refine ec ?_;rw[Bool.and_eq_true,cI,cI,cI];unfold upto Cz
 constructor
 ·intro h;refine⟨fun j h0 h1=>?_,fun j h0 h1=>?_⟩
  ·have:=h j h0 h1;rw[Bool.and_eq_true]at this;exact this.1
  ·have:=h j h0 h1;rw[Bool.and_eq_true]at this;exact this.2
 ·rintro⟨h,g⟩ j h0 h1;rw[h j h0 h1,g j h0 h1];rfl
theorem EQ {nx c:Int}(hl:layOk sp lg=true)(ho:objOk sp lg os cs nx=true):hoI sp lg os cs b x qs c=(hoS sp lg os cs b x qs&&bU (sA qs c) qs.length):=by
 unfold hoI hoS;rw[IA];by_cases h1:bU (iA sp lg cs) cs.length=true
 case neg=>rw[Bool.not_eq_true]at h1;rw[h1];rfl
 by_cases h2:bU (qA sp lg qs) qs.length=true
 case neg=>rw[Bool.not_eq_true]at h2;rw[h2];simp
 by_cases h3:bU (jA sp lg (ifL b x) (-1)) (ifL b x).length=true
 case neg=>rw[Bool.not_eq_true]at h3;rw[h3];simp
 have sub:∀ v∈HY os cs qs (ifL b x),v∈Mk sp lg:=by
  intro v hv;rw[Ii hl];unfold HY at hv;rw[List.mem_append,List.mem_append,List.mem_append]at hv;rcases hv with((hv|hv)|hv)|hv
  ·obtain⟨i,i1,hv⟩:=xj.1 hv;obtain⟨k,k1,hv⟩:=xk.1 hv;obtain⟨j,j1,rfl⟩:=k8.1 hv;have q1:=cy h1 i i1;have q2:=cy q1 k k1;have q3:=cy q2 j j1;exact EN hl q3
  ·obtain⟨j,j1,rfl⟩:=k8.1 hv;exact EN hl (cy h2 j j1)
  ·obtain⟨j,j1,rfl⟩:=k8.1 hv;exact EN hl (cy h3 j j1)
  ·obtain⟨j,j1,rfl⟩:=k8.1 hv;have q:=cy ho j j1;unfold tY at q;simp only[Bool.and_eq_true]at q;exact PY hl q.2.2.2.2
 have key:=FT MC sub;have e1:bU (Jr (HY os cs qs (ifL b x)) (laL sp lg)) (laL sp lg).length=(decide (As os cs qs (ifL b x)).Nodup&&decide ((As os cs qs (ifL b x)).length=(laL sp lg).length)):=by
  refine ec ?_;rw[Bool.and_eq_true,decide_eq_true_eq,decide_eq_true_eq, <-Cp.nodup_iff, <-Cp.length_eq,OX hl,bW, <-key]
  constructor
  ·intro h v hv;obtain⟨n,n1,rfl⟩:=List.mem_iff_getElem.1 hv;have q:=cy h n n1;unfold Jr at q;rw[oV n1,decide_eq_true_eq]at q;exact q
  ·intro h;rw[cI];intro j h0 h1;have n1:j.toNat<(Mk sp lg).length:=by omega
   have q:=oV n1;rw[Int.toNat_of_nonneg h0]at q;unfold Jr;rw[q,decide_eq_true_eq];exact h _ (List.getElem_mem n1)
 rw[h1,h2,h3,e1];simp only[Bool.true_and];exact Bool.and_comm _ _
end
end Go.V
namespace Go.V
theorem BR {n:Int}:∀ {es:aa},NG es->∀ m,m∈iY (iK es n (.v (.bool true)))↔m∈iY es\/m=n
 | [],_,m=>by
   show m∈iY [[.i n,.v (.bool true)]]↔_;simp[iY,RH]
 | e::es,h,m=>by
   obtain⟨k,b,rfl⟩:=h e (by simp);have h':NG es:=fun e he=>h e (by simp[he])
   have ih:=BR (n:=n) h' m;rw[Cd];by_cases c:k=n
   ·rw[if_pos c];subst c;show m∈k::iY es↔m∈k::iY es\/m=k;simp only[List.mem_cons]
    constructor
    ·exact fun h=>.inl h
    ·rintro(h|h)
     ·exact h
     ·exact .inl h
   ·rw[if_neg c];show m∈k::iY (iK es n (.v (.bool true)))↔m∈k::iY es\/m=n;simp only[List.mem_cons,ih,or_assoc]
structure rU (es:aa)(l:List Int):Prop where
 s:lD es l
 k:∀ m,m∈iY es↔m∈l
theorem P1 :rU [] []:=⟨AZ,fun m=>Iff.rfl⟩
theorem FZ {es:aa}{l:List Int}{n:Int}(h:rU es l):rU (iK es n (.v (.bool true))) (l++[n]):=
 ⟨rR h.s,fun m=>by rw[BR h.s.wf,h.k,List.mem_append,List.mem_singleton]⟩
def rQ (sp:aa)(i:Int):Bool:= !(decide (0<i)&&decide (af sp i 0<=af sp (i-1) 0))
def JO (es:aa)(p:Int):Bool:=decide ((fpg es p).length=1)
def vW (es lg:aa)(i:Int):Bool:=rQ lg i&&bU (fun k=>JO es (af lg i 0+k)) (af lg i 1).toNat
def ownB (sp lg:aa)(p:Int):Bool:=decide (p∈rM sp lg)
def mapB (es:aa)(p:Int):Bool:=decide (peM es p≠0)
def vt (es fr sp lg:aa)(p:Int):Bool:=(mapB es p==ownB sp lg p)&& !(rhB fr p==ownB sp lg p)
def FQ (es sp lg:aa):Bool:=decide (∀ p∈rM sp lg,p<es.length)
def rf (sp:aa)(i j:Int):Bool:=mshB (af sp i 0) (af sp i 1) (af sp i 2) (af sp j 0) (af sp j 1) (af sp j 2)
def Dk (es sp:aa)(i j:Int):Bool:= !decide (peF es (af sp i 0)=peF es (af sp j 0))||rf sp i j
def FA (es sp:aa)(i:Int):Bool:=bU (Dk es sp i) i.toNat
def Fu (es sp:aa)(i k:Int):Bool:=decide (spI sp (af (fpg es (af sp i 0)) k 0)=i)||(decide (0<=spI sp (af (fpg es (af sp i 0)) k 0))&&rf sp i (spI sp (af (fpg es (af sp i 0)) k 0)))
def msA (es sp:aa)(i:Int):Bool:=bU (Fu es sp i) (fpg es (af sp i 0)).length
def pgI (es fr sp lg:aa):Bool:=bU (rQ sp) sp.length&&(bU (vW es lg) lg.length&&(bU (vt es fr sp lg) es.length&&(FQ es sp lg&&bU (FA es sp) sp.length)))
def pgS (es fr sp lg:aa):Bool:=bU (rQ sp) sp.length&&(bU (vW es lg) lg.length&&(FQ es sp lg&&bU (vt es fr sp lg) es.length))
def smS (es sp:aa):Bool:=bU (msA es sp) sp.length
section
variable {es fr sp lg m : aa} {i j k p : Int} {vs : List Int}
theorem CN (h:0<i)(g:af sp i 0<=af sp (i-1) 0):rQ sp i=false:=by unfold rQ;rw[decide_eq_true h,decide_eq_true g];rfl
theorem CO (h:i<=0):rQ sp i=true:=by unfold rQ;rw[decide_eq_false (by omega)];rfl
theorem CP (h:af sp (i-1) 0<af sp i 0):rQ sp i=true:=by unfold rQ;rw[decide_eq_false (p:=af sp i 0<=_) (by omega)];simp
theorem P9 (i0:0<=i)(i1:i<sp.length)(h:rQ sp i=false):pgI es fr sp lg=false:=by unfold pgI;rw[bB i0 i1 h];rfl
theorem Ky (i0:0<=i)(i1:i<lg.length)(h:vW es lg i=false):pgI es fr sp lg=false:=by unfold pgI;rw[bB i0 i1 h];simp
theorem Kz (i0:0<=i)(i1:i<es.length)(h:vt es fr sp lg i=false):pgI es fr sp lg=false:=by unfold pgI;rw[bB i0 i1 h];simp
theorem Qa (h:FQ es sp lg=false):pgI es fr sp lg=false:=by unfold pgI;rw[h];simp
theorem Qb (i0:0<=i)(i1:i<sp.length)(h:FA es sp i=false):pgI es fr sp lg=false:=by unfold pgI;rw[bB i0 i1 h];simp
theorem SZ {a b c d:Int}(h1:upto (rQ sp) a)(g1:(sp.length:Int)<=a)(h2:upto (vW es lg) b)(g2:(lg.length:Int)<=b)(h3:upto (vt es fr sp lg) c)(g3:(es.length:Int)<=c)(h4:FQ es sp lg=true)(h5:upto (FA es sp) d)(g5:(sp.length:Int)<=d):pgI es fr sp lg=true:=by
 unfold pgI;rw[bg h1 g1,bg h2 g2,bg h3 g3,h4,bg h5 g5];rfl
theorem Qi (i0:0<=i)(i1:i<sp.length)(h:rQ sp i=false):pgS es fr sp lg=false:=by unfold pgS;rw[bB i0 i1 h];rfl
theorem KD (i0:0<=i)(i1:i<lg.length)(h:vW es lg i=false):pgS es fr sp lg=false:=by unfold pgS;rw[bB i0 i1 h];simp
theorem KE (i0:0<=i)(i1:i<es.length)(h:vt es fr sp lg i=false):pgS es fr sp lg=false:=by unfold pgS;rw[bB i0 i1 h];simp
theorem Qj (h:FQ es sp lg=false):pgS es fr sp lg=false:=by unfold pgS;rw[h];simp
theorem S6 {a b c:Int}(h1:upto (rQ sp) a)(g1:(sp.length:Int)<=a)(h2:upto (vW es lg) b)(g2:(lg.length:Int)<=b)(h3:upto (vt es fr sp lg) c)(g3:(es.length:Int)<=c)(h4:FQ es sp lg=true):pgS es fr sp lg=true:=by
 unfold pgS;rw[bg h1 g1,bg h2 g2,bg h3 g3,h4];rfl
theorem J4 (h:rQ lg i=false):vW es lg i=false:=by unfold vW;rw[h];rfl
theorem J5 (k0:0<=k)(k1:k<af lg i 1)(h:(fpg es (af lg i 0+k)).length≠1):vW es lg i=false:=by
 unfold vW;rw[bB (i:=k) (n:=(af lg i 1).toNat) k0 (by omega) (show JO es (af lg i 0+k)=false from decide_eq_false h),Bool.and_false]
theorem O0 (h:rQ lg i=true)(g:upto (fun k=>JO es (af lg i 0+k)) k)(k1:af lg i 1<=k)(n0:0<=af lg i 1):vW es lg i=true:=by
 unfold vW;rw[h,bg g (by omega)];rfl
theorem JP (g:upto (fun k=>JO es (af lg i 0+k)) k)(h:(fpg es (af lg i 0+k)).length=1):upto (fun k=>JO es (af lg i 0+k)) (k+1):=aP g (decide_eq_true h)
structure ND (es sp lg:aa)(j:Int)(m:aa):Prop where
 ok:upto (vW es lg) j
 o:rU m (ij sp sp.length++ig lg j.toNat)
structure NC (es sp lg:aa)(j k:Int)(m:aa):Prop where
 ok:upto (vW es lg) j
 h:rQ lg j=true
 g:upto (fun k=>JO es (af lg j 0+k)) k
 o:rU m (ij sp sp.length++ig lg j.toNat++lh (af lg j 0) k.toNat)
theorem S5 (h:rU m (ij sp i.toNat))(i1:i<=sp.length)(i2:(sp.length:Int)<=i):ND es sp lg 0 m:=⟨aX,by rw[show i.toNat=sp.length from by omega]at h;simpa[ig]using h⟩
theorem Qc (h:ND es sp lg j m)(g:rQ lg j=true):NC es sp lg j (af lg j 0-af lg j 0) m:=by
 rw[Int.sub_self];exact⟨h.ok,g,aX,by simpa[lh]using h.o⟩
theorem Qe (h:NC es sp lg j (p-af lg j 0) m)(p0:af lg j 0<=p)(g:(fpg es p).length=1):NC es sp lg j (p+1-af lg j 0) (iK m p (.v (.bool true))):=by
 have e:af lg j 0+(p-af lg j 0)=p:=by omega
 rw[show p+1-af lg j 0=(p-af lg j 0)+1 from by omega];refine⟨h.ok,h.h,JP h.g (by rw[e];exact g),?_⟩;rw[uc (by omega),e, <-List.append_assoc];exact FZ h.o
theorem Qd (p0:af lg j 0<=p)(p1:p<af lg j 0+af lg j 1)(h:(fpg es p).length≠1):vW es lg j=false:=
 J5 (k:=p-af lg j 0) (by omega) (by omega) (by rw[show af lg j 0+(p-af lg j 0)=p from by omega];exact h)
theorem Qf (h:NC es sp lg j (p-af lg j 0) m)(j0:0<=j)(n0:0<=af lg j 1)(p1:p<=af lg j 0+af lg j 1)(p2:af lg j 0+af lg j 1<=p):ND es sp lg (j+1) m:=by
 refine⟨aP h.ok (O0 h.h h.g (by omega) n0),?_⟩;have o:=h.o;rw[show(p-af lg j 0).toNat=(af lg j 1).toNat from by omega,List.append_assoc, <-lY j0]at o;exact o
theorem MQ (h:ND es sp lg j m)(j1:j<=lg.length)(j2:(lg.length:Int)<=j):rU m (rM sp lg):=by
 have o:=h.o;rw[show j.toNat=lg.length from by omega]at o;exact o
theorem P2 (h:rU m (rM sp lg))(p:Int):mgbI m p=ownB sp lg p:=by
 refine ec ?_;unfold ownB;rw[h.s.at_,decide_eq_true_eq]
theorem JL (h:mapB es p≠ownB sp lg p):vt es fr sp lg p=false:=by unfold vt;rw[beq_eq_false_iff_ne.2 h];rfl
theorem JM (h:rhB fr p=ownB sp lg p):vt es fr sp lg p=false:=by unfold vt;rw[h];simp
theorem N9 (h:mapB es p=ownB sp lg p)(g:rhB fr p≠ownB sp lg p):vt es fr sp lg p=true:=by unfold vt;rw[h,beq_eq_false_iff_ne.2 g];simp
theorem Lp (h:mapB es p=rhB fr p)(g:mapB es p=ownB sp lg p):vt es fr sp lg p=false:=JM (by rw[<-h,g])
theorem Oa (h:mapB es p≠rhB fr p)(g:mapB es p=ownB sp lg p):vt es fr sp lg p=true:=N9 g (fun e=>h (by rw[g,e]))
theorem Po (p0:0<=p)(p1:p<es.length):cg .neq (af es p 0) 0=mapB es p:=by rw[wQ];unfold mapB peM;rw[if_pos (by omega)]
theorem PU (h:p∈rM sp lg)(g:(es.length:Int)<=p):FQ es sp lg=false:=decide_eq_false (fun c=>by have:=c p h;omega)
theorem SU (o:rU m (rM sp lg))(h:∀ k∈vs,k<es.length)(g:∀ k∈iY m,k∈vs):FQ es sp lg=true:=decide_eq_true (fun p hp=>h p (g p ((o.k p).2 hp)))
theorem Q3 {q:Int}(h:∀ k∈vs,k<(es.length:Int))(g:q<es.length):∀ k∈q::vs,k<(es.length:Int):=fun k hk=>by
 rcases List.mem_cons.1 hk with rfl|hk
 ·exact g
 ·exact h k hk
theorem SK (j0:0<=j)(j1:j<i)(h:peF es (af sp i 0)=peF es (af sp j 0))(g:rf sp i j=false):FA es sp i=false:=by
 unfold FA;exact bB j0 (by omega) (by unfold Dk;rw[g,decide_eq_true h];rfl)
theorem Pi (h:peF es (af sp i 0)≠peF es (af sp j 0)):Dk es sp i j=true:=by unfold Dk;rw[decide_eq_false h];rfl
theorem Pj (h:rf sp i j=true):Dk es sp i j=true:=by unfold Dk;rw[h,Bool.or_true]
theorem SL (h:upto (Dk es sp i) j)(g:i<=j)(i0:0<=i):FA es sp i=true:=by unfold FA;exact bg h (by omega)
structure Hd (es sp lg:aa)(j:Int)(o:aa):Prop where
 ok:upto (vW es lg) j
 e:o=fA (ij sp sp.length++ig lg j.toNat)
 l:(ig lg j.toNat).length<=64*j.toNat
structure K2 (es sp lg:aa)(j k:Int)(o:aa):Prop where
 ok:upto (vW es lg) j
 h:rQ lg j=true
 g:upto (fun k=>JO es (af lg j 0+k)) k
 e:o=fA (ij sp sp.length++ig lg j.toNat++lh (af lg j 0) k.toNat)
 l:(ig lg j.toNat).length<=64*j.toNat
structure K3 (sp:aa)(i:Int)(o:aa):Prop where
 ok:upto (rQ sp) i
 e:o=fA (ij sp i.toNat)
variable {o : aa}
theorem Tg :K3 sp 0 []:=⟨aX,rfl⟩
theorem Ti (h:K3 sp i o):o.length=i.toNat:=by rw[h.e,bW,lp]
theorem KH (h:K3 sp i o)(i0:0<=i)(g:rQ sp i=true):K3 sp (i+1) (o++[[.i (af sp i 0)]]):=⟨aP h.ok g,by rw[kO i0,eo, <-h.e];rfl⟩
theorem Tc (h:K3 sp i o)(i1:i<=sp.length)(i2:(sp.length:Int)<=i):Hd es sp lg 0 o:=⟨aX,by rw[h.e,show i.toNat=sp.length from by omega];simp[ig],Nat.zero_le _⟩
theorem Qq (h:Hd es sp lg j o)(g:rQ lg j=true):K2 es sp lg j 0 o:=⟨h.ok,g,aX,by rw[h.e];simp[lh],h.l⟩
theorem Qr (h:K2 es sp lg j k o)(k0:0<=k)(g:(fpg es (af lg j 0+k)).length=1):K2 es sp lg j (k+1) (o++[[.i (af lg j 0+k)]]):=
 ⟨h.ok,h.h,JP h.g g,by rw[uc k0, <-List.append_assoc,eo, <-h.e];rfl,h.l⟩
theorem Qt (h:K2 es sp lg j k o)(j0:0<=j)(n0:0<=af lg j 1)(n1:af lg j 1<=64)(k1:k<=af lg j 1)(k2:af lg j 1<=k):Hd es sp lg (j+1) o:=by
 have l:=h.l;refine⟨aP h.ok (O0 h.h h.g k2 n0),?_,?_⟩
 ·rw[h.e,show k.toNat=(af lg j 1).toNat from by omega,List.append_assoc, <-lY j0]
 ·rw[lY j0,List.length_append,no];omega
theorem S9 (h:K2 es sp lg j k o)(k1:k<=64):o.length<=sp.length+64*j.toNat+64:=by
 have l:=h.l;rw[h.e,bW,List.length_append,List.length_append,lp,no];omega
theorem Iz (h:Hd es sp lg j o)(j1:j<=lg.length)(j2:(lg.length:Int)<=j):o=fA (rM sp lg):=by
 have e:=h.e;rw[show j.toNat=lg.length from by omega]at e;exact e
theorem Kw (hl:layOk sp lg=true){x:Int}(h:x∈rM sp lg):0<=x/\x<=31:=by
 have F:=Dj hl;unfold rM at h;rw[List.mem_append,gY,jd]at h;rcases h with⟨i,i1,e⟩|⟨j,j1,e1,e2⟩
 ·have t:=fh (F.s i i1);omega
 ·have t:=fH (F.l j j1);have b:=gP t.1;omega
theorem Qs (hl:layOk sp lg=true)(h:Hd es sp lg j o)(j1:j<=lg.length)(j2:(lg.length:Int)<=j)(hs:sp.length<=1073741824)(hg:lg.length<=1073741824):Rw [tI] o:=by
 have l:=h.l;rw[Iz h j1 j2];refine oW (fun x hx=>by have:=Kw hl hx;omega) ?_;unfold rM;rw[List.length_append,lp];rw[show j.toNat=lg.length from by omega]at l;omega
theorem Td (h:Hd es sp lg j o)(j1:j<=lg.length)(j2:(lg.length:Int)<=j)(i0:0<=i)(i1:i<o.length)(g:(es.length:Int)<=af o i 0):FQ es sp lg=false:=by
 have e:=Iz h j1 j2;rw[e]at i1 g;obtain⟨v,q1,q2⟩:=xF i0 i1;rw[q2]at g;exact PU (List.mem_of_getElem? q1) g
theorem Tf (h:Hd es sp lg j o)(j1:j<=lg.length)(j2:(lg.length:Int)<=j)(g:upto (fun t=>decide (af o t 0<es.length)) i)(i2:(o.length:Int)<=i):FQ es sp lg=true:=by
 have e:=Iz h j1 j2;refine decide_eq_true (fun p hp=>?_);obtain⟨n,n1,rfl⟩:=List.mem_iff_getElem.1 hp;have n2:n<o.length:=by rw[e,bW];exact n1
 have q:=g n (by omega) (by omega);rw[decide_eq_true_eq,e,oV n1]at q;exact q
theorem Te (h:Hd es sp lg j o)(j1:j<=lg.length)(j2:(lg.length:Int)<=j)(p:Int):hasB o p=ownB sp lg p:=by
 refine ec ?_;rw[Iz h j1 j2,kZ];unfold ownB;rw[decide_eq_true_eq]
theorem PF (k0:0<=k)(k1:k<(fpg es (af sp i 0)).length)(h:spI sp (af (fpg es (af sp i 0)) k 0)≠i)(g:spI sp (af (fpg es (af sp i 0)) k 0)<0):msA es sp i=false:=by
 unfold msA;exact bB k0 k1 (by unfold Fu;rw[decide_eq_false h,decide_eq_false (by omega)];rfl)
theorem PG (k0:0<=k)(k1:k<(fpg es (af sp i 0)).length)(h:spI sp (af (fpg es (af sp i 0)) k 0)≠i)(g:rf sp i (spI sp (af (fpg es (af sp i 0)) k 0))=false):msA es sp i=false:=by
 unfold msA;exact bB k0 k1 (by unfold Fu;rw[decide_eq_false h,g];simp)
theorem Pm (h:spI sp (af (fpg es (af sp i 0)) k 0)=i):Fu es sp i k=true:=by unfold Fu;rw[decide_eq_true h];rfl
theorem Pn (h:0<=spI sp (af (fpg es (af sp i 0)) k 0))(g:rf sp i (spI sp (af (fpg es (af sp i 0)) k 0))=true):Fu es sp i k=true:=by unfold Fu;rw[decide_eq_true h,g];simp
theorem GL {p:Int}(h:0<=spI sp p):spI sp p<sp.length:=by
 obtain⟨b,_⟩:=dy h;exact b
theorem Ab {a b:Int}:bu .and .i64 a b=bu .and .i64 b a:=by
 show IntKind.wrap .i64 ((BitVec.ofInt _ a&&&BitVec.ofInt _ b).toNat)=IntKind.wrap .i64 ((BitVec.ofInt _ b&&&BitVec.ofInt _ a).toNat);rw[BitVec.and_comm]
theorem FJ :rf sp i j=rf sp j i:=by
 refine ec ?_;unfold rf mshB;simp only[Bool.and_eq_true,decide_eq_true_eq];rw[Ab (a:=af sp i 2)]
 constructor
 ·rintro⟨a,b,c,d,e⟩;exact⟨b,a,c.symm,fun h=>d h.symm,e⟩
 ·rintro⟨a,b,c,d,e⟩;exact⟨b,a,c.symm,fun h=>d h.symm,e⟩
theorem xy {es:aa}{f:Int}:∀ {n:Nat} {x:Int},hasB (uG es f n) x=true↔∃ k:Nat,k<n/\x=k/\af es k 0≠0/\af es k 1=f
 |0,x=>⟨fun h=>absurd (tE.1 h) (List.not_mem_nil),fun⟨k,h,_⟩=>absurd h (Nat.not_lt_zero _)⟩
 | n+1,x=>by
   by_cases c:af es n 0≠0/\af es n 1=f
   ·rw[Cq c.1 c.2,BJ,Bool.or_eq_true,xy,BK]
    constructor
    ·rintro(⟨k,h,e⟩|e)
     ·exact⟨k,by omega,e⟩
     ·exact⟨n,by omega,e.symm,c⟩
    ·rintro⟨k,h,e,q⟩;by_cases d:k=n
     ·subst d;exact .inr e.symm
     ·exact .inl ⟨k,by omega,e,q⟩
   ·have c':af es n 0=0\/af es n 1≠f:=by
     by_cases z:af es n 0=0
     ·exact .inl z
     ·exact .inr (fun e=>c ⟨z,e⟩)
    rw[Gd c',xy]
    constructor
    ·rintro⟨k,h,e⟩;exact⟨k,by omega,e⟩
    ·rintro⟨k,h,e,q⟩;by_cases d:k=n
     ·subst d;exact absurd q c
     ·exact⟨k,by omega,e,q⟩
theorem kV {p x:Int}:hasB (fpg es p) x=true↔peM es p≠0/\0<=x/\x<es.length/\peM es x≠0/\peF es x=peF es p:=by
 by_cases c:peM es p=0
 ·rw[EJ c];exact⟨fun h=>absurd (tE.1 h) (List.not_mem_nil),fun h=>absurd c h.1⟩
 ·rw[BI c];unfold pagesOn;rw[xy]
  constructor
  ·rintro⟨k,h,rfl,q1,q2⟩;refine⟨c,by omega,by omega,?_,?_⟩
   ·unfold peM;rw[if_pos (by omega)];exact q1
   ·rw[show peF es k=af es k 1 from by unfold peF;rw[if_pos (by omega)]];exact q2
  ·rintro⟨_,h0,h1,q1,q2⟩;refine⟨x.toNat,by omega,by omega,?_,?_⟩
   ·rw[Int.toNat_of_nonneg h0];unfold peM at q1;rw[if_pos (by omega)]at q1;exact q1
   ·rw[Int.toNat_of_nonneg h0];unfold peF at q2;rw[if_pos (c:=0<=x/\x<_) (by omega)]at q2;rw[q2];rfl
theorem wX {l:aa}{x:Int}:hasB l x=true↔∃ k:Nat,k<l.length/\af l k 0=x:=jJ
theorem Ge (hl:layOk sp lg=true):pgI es fr sp lg=(pgS es fr sp lg&&smS es sp):=by
 have F:=Dj hl;unfold pgI pgS;by_cases h1:bU (rQ sp) sp.length=true
 case neg=>rw[Bool.not_eq_true]at h1;rw[h1];rfl
 by_cases h2:bU (vW es lg) lg.length=true
 case neg=>rw[Bool.not_eq_true]at h2;rw[h2];simp
 by_cases h3:bU (vt es fr sp lg) es.length=true
 case neg=>rw[Bool.not_eq_true]at h3;rw[h3];simp
 by_cases h4:FQ es sp lg=true
 case neg=>rw[Bool.not_eq_true]at h4;rw[h4];simp
 rw[h1,h2,h3,h4];simp only[Bool.true_and];have h4':=of_decide_eq_true h4;have mp:∀ q:Int,0<=q->q<es.length->(peM es q≠0↔q∈rM sp lg):=by
  intro q q0 q1;have e:=cI.1 h3 q q0 q1;unfold vt at e;simp only[Bool.and_eq_true,beq_iff_eq]at e;have e:=e.1;unfold mapB ownB at e
  constructor
  ·intro h;rw[decide_eq_true h]at e;exact of_decide_eq_true e.symm
  ·intro h;rw[decide_eq_true h]at e;exact of_decide_eq_true e
 have spg:∀ n:Nat,n<sp.length->af sp n 0∈rM sp lg:=fun n hn=>List.mem_append.2 (.inl (gY.2 ⟨n,hn,rfl⟩))
 have spm:∀ n:Nat,n<sp.length->0<=af sp n 0/\af sp n 0<es.length/\peM es (af sp n 0)≠0:=by
  intro n hn;have b:=Kw hl (spg n hn);have c:=h4' _ (spg n hn);exact⟨b.1,c,(mp _ b.1 c).2 (spg n hn)⟩
 have sat:∀ n:Nat,n<sp.length->spI sp (af sp n 0)=n:=by
  intro n hn;have q:=gz (p:=isSp sp (af sp n 0)) hn (kj rfl);obtain⟨q1,q2⟩:=dy q;obtain⟨m,e⟩:=Int.eq_ofNat_of_zero_le q;have e':spI sp (af sp n 0)=m:=e;rw[e]at q1 q2;have:=F.ss m n (by omega) hn (of_decide_eq_true q2);rw[e',this]
 refine ec ?_;unfold smS;rw[cI,cI]
 constructor
 ·intro h i i0 i1;unfold msA;rw[cI];intro k k0 k1;obtain⟨ii,rfl⟩:=Int.eq_ofNat_of_zero_le i0;obtain⟨kk,rfl⟩:=Int.eq_ofNat_of_zero_le k0;have hx:hasB (fpg es (af sp ii 0)) (af (fpg es (af sp ii 0)) kk 0)=true:=wX.2 ⟨kk,by omega,rfl⟩;generalize hX:af (fpg es (af sp ii 0)) kk 0=x at hx;obtain⟨c1,c2,c3,c4,c5⟩:=kV.1 hx;have hp:=(mp x c2 c3).1 c4;unfold rM at hp;rw[List.mem_append,gY,jd]at hp;unfold Fu;rw[hX];rcases hp with⟨n,n1,rfl⟩|⟨j,j1,e1,e2⟩
  ·rw[sat n n1];rcases Nat.lt_trichotomy n ii with c|c|c
   ·have q:=cI.1 (h ii (by omega) i1) n (by omega) (by omega);unfold Dk at q;rw[c5,decide_eq_true rfl]at q;rw[show rf sp ii n=true from by simpa using q,decide_eq_true (p:=(0:Int)<=n) (by omega)];simp
   ·rw[c,decide_eq_true rfl];rfl
   ·have q:=cI.1 (h n (by omega) (by omega)) ii (by omega) (by omega);unfold Dk at q;rw[c5,decide_eq_true rfl]at q;have q':rf sp n ii=true:=by simpa using q
    rw[FJ,q',decide_eq_true (p:=(0:Int)<=n) (by omega)];simp
  ·exfalso;have t:=fH (F.l j j1);have b:=gP t.1;have q:=cy h2 j j1;unfold vW at q;simp only[Bool.and_eq_true]at q;have q2:=cI.1 q.2 (x-af lg j 0) (by omega) (by omega);rw[show af lg j 0+(x-af lg j 0)=x from by omega]at q2;have q3:=of_decide_eq_true q2;have s1:=spm ii (by omega);have a1:hasB (fpg es x) x=true:=kV.2 ⟨c4,c2,c3,c4,rfl⟩;have a2:hasB (fpg es x) (af sp ii 0)=true:=kV.2 ⟨c4,s1.1,s1.2.1,s1.2.2,c5.symm⟩;obtain⟨u,u1,u2⟩:=wX.1 a1;obtain⟨v,v1,v2⟩:=wX.1 a2;have:u=v:=by omega
   subst this;rw[u2]at v2;exact F.sl ii j (by omega) j1 (by omega) (by omega)
 ·intro h i i0 i1;unfold FA;rw[cI];intro j j0 j1;obtain⟨ii,rfl⟩:=Int.eq_ofNat_of_zero_le i0;obtain⟨jj,rfl⟩:=Int.eq_ofNat_of_zero_le j0;unfold Dk;by_cases c:peF es (af sp ii 0)=peF es (af sp jj 0)
  case neg=>rw[decide_eq_false c];rfl
  have s1:=spm ii (by omega);have s2:=spm jj (by omega);have a:hasB (fpg es (af sp ii 0)) (af sp jj 0)=true:=kV.2 ⟨s1.2.2,s2.1,s2.2.1,s2.2.2,c.symm⟩;obtain⟨k,k1,k2⟩:=wX.1 a;have q:=h ii (by omega) i1;unfold msA at q;have q:=cy q k k1;unfold Fu at q;rw[k2,sat jj (by omega),decide_eq_false (p:=(jj:Int)=ii) (by omega)]at q;simp only[Bool.false_or,Bool.and_eq_true]at q;rw[q.2,Bool.or_true]
end
end Go.V
namespace Go.V
def jobZ (k m:Int)(cs:aa)(ph nx:Int):Bool:=decide (ph=0)&&(decide (nx=0)&&(decide (k=0)&&(decide (m=0)&&decide (cs.length=0))))
def tM (sp:aa)(me:Bool)(k m:Int)(cs:aa)(ph nx:Int):Bool:=
 bif me then(jbOk k m cs ph nx&&(decide (0<=spI sp k)&&decide (0<=spI sp m)))else jobZ k m cs ph nx
def Jz (cs:aa)(i:Int):Bool:=caOk (ax cs i 0)
def hpI (a0 a1 a2:aa)(a3:Int)(a4 a5 a6 a7 a8 a9 aA aB:aa)(aC:Int)(aD:aa)(aE aF aG aH:Int)(aI:Bool)(aJ aK:Int)(aL:aa)(aM aN:Int):Bool:=
 kerOk a0 a1 a2 a3 a4&&(rgOk a2.length a5&&(layOk a6 a7&&(pgI a2 a5 a6 a7&&(mailOk aA aB&&(decide (a9.length=aA.length)&&(quarOk aC aD&&(bU (Jz a9) a9.length&&
  (objOk a6 a7 a8 a9 aH&&(hoI a6 a7 a8 a9 aA aB aD aF&&(inR aE 0 1073741823&&(inR aF 0 1000000&&(inR aG 0 1000&&(inR aH 1 1000000&&tM a6 aI aJ aK aL aM aN)))))))))))))
structure eR (a0 a1 a2 a4 a5 a6 a7 a8 a9 aA aB aD aL:aa):Prop where
 n:wx a6 a7 a8 a9 aA aB aD
 c:Rw [.sl [tI]] a0
 u:Rw [tB] a1
 e:Rw [tI,tI] a2
 el:a2.length<=1073741824
 r:Rw [tI] a4
 f:Rw [tI,tI] a5
 fl:a5.length<=1073741824
 j:Rw [tI] aL
 jl:aL.length<=1073741824
section
variable {a0 a1 a2 : aa} {a3 : Int} {a4 a5 a6 a7 a8 a9 aA aB : aa} {aC : Int} {aD : aa} {aE aF aG aH : Int} {aI : Bool} {aJ aK : Int} {aL : aa} {aM aN : Int} {i : Int}
theorem Ov (h:kerOk a0 a1 a2 a3 a4=false):hpI a0 a1 a2 a3 a4 a5 a6 a7 a8 a9 aA aB aC aD aE aF aG aH aI aJ aK aL aM aN=false:=by unfold hpI;rw[h];simp
theorem OB (h:rgOk a2.length a5=false):hpI a0 a1 a2 a3 a4 a5 a6 a7 a8 a9 aA aB aC aD aE aF aG aH aI aJ aK aL aM aN=false:=by unfold hpI;rw[h];simp
theorem Ow (h:layOk a6 a7=false):hpI a0 a1 a2 a3 a4 a5 a6 a7 a8 a9 aA aB aC aD aE aF aG aH aI aJ aK aL aM aN=false:=by unfold hpI;rw[h];simp
theorem LN (h:pgI a2 a5 a6 a7=false):hpI a0 a1 a2 a3 a4 a5 a6 a7 a8 a9 aA aB aC aD aE aF aG aH aI aJ aK aL aM aN=false:=by unfold hpI;rw[h];simp
theorem Ox (h:mailOk aA aB=false):hpI a0 a1 a2 a3 a4 a5 a6 a7 a8 a9 aA aB aC aD aE aF aG aH aI aJ aK aL aM aN=false:=by unfold hpI;rw[h];simp
theorem Sj (h:decide (a9.length=aA.length)=false):hpI a0 a1 a2 a3 a4 a5 a6 a7 a8 a9 aA aB aC aD aE aF aG aH aI aJ aK aL aM aN=false:=by unfold hpI;rw[h];simp
theorem OA (h:quarOk aC aD=false):hpI a0 a1 a2 a3 a4 a5 a6 a7 a8 a9 aA aB aC aD aE aF aG aH aI aJ aK aL aM aN=false:=by unfold hpI;rw[h];simp
theorem Si (h:bU (Jz a9) a9.length=false):hpI a0 a1 a2 a3 a4 a5 a6 a7 a8 a9 aA aB aC aD aE aF aG aH aI aJ aK aL aM aN=false:=by unfold hpI;rw[h];simp
theorem LM (h:objOk a6 a7 a8 a9 aH=false):hpI a0 a1 a2 a3 a4 a5 a6 a7 a8 a9 aA aB aC aD aE aF aG aH aI aJ aK aL aM aN=false:=by unfold hpI;rw[h];simp
theorem LL (h:hoI a6 a7 a8 a9 aA aB aD aF=false):hpI a0 a1 a2 a3 a4 a5 a6 a7 a8 a9 aA aB aC aD aE aF aG aH aI aJ aK aL aM aN=false:=by unfold hpI;rw[h];simp
theorem OD (h:inR aE 0 1073741823=false):hpI a0 a1 a2 a3 a4 a5 a6 a7 a8 a9 aA aB aC aD aE aF aG aH aI aJ aK aL aM aN=false:=by unfold hpI;rw[h];simp
theorem OG (h:inR aF 0 1000000=false):hpI a0 a1 a2 a3 a4 a5 a6 a7 a8 a9 aA aB aC aD aE aF aG aH aI aJ aK aL aM aN=false:=by unfold hpI;rw[h];simp
theorem OH (h:inR aG 0 1000=false):hpI a0 a1 a2 a3 a4 a5 a6 a7 a8 a9 aA aB aC aD aE aF aG aH aI aJ aK aL aM aN=false:=by unfold hpI;rw[h];simp
theorem OI (h:inR aH 1 1000000=false):hpI a0 a1 a2 a3 a4 a5 a6 a7 a8 a9 aA aB aC aD aE aF aG aH aI aJ aK aL aM aN=false:=by unfold hpI;rw[h];simp
theorem JY (h:(a9.length:Int)≠aA.length):hpI a0 a1 a2 a3 a4 a5 a6 a7 a8 a9 aA aB aC aD aE aF aG aH aI aJ aK aL aM aN=false:=Sj (decide_eq_false (by omega))
theorem JX (i0:0<=i)(i1:i<a9.length)(h:caOk (ax a9 i 0)=false):hpI a0 a1 a2 a3 a4 a5 a6 a7 a8 a9 aA aB aC aD aE aF aG aH aI aJ aK aL aM aN=false:=Si (bB i0 i1 h)
theorem ES (hk:kerOk a0 a1 a2 a3 a4=true)(hr:rgOk a2.length a5=true)(hl:layOk a6 a7=true)(hp:pgI a2 a5 a6 a7=true)(hm:mailOk aA aB=true)(hn:decide (a9.length=aA.length)=true)(hq:quarOk aC aD=true)(hc:bU (Jz a9) a9.length=true)(ho:objOk a6 a7 a8 a9 aH=true)(hh:hoI a6 a7 a8 a9 aA aB aD aF=true)(hs:inR aE 0 1073741823=true)(ht:inR aF 0 1000000=true)(hw:inR aG 0 1000=true)(hx:inR aH 1 1000000=true):hpI a0 a1 a2 a3 a4 a5 a6 a7 a8 a9 aA aB aC aD aE aF aG aH aI aJ aK aL aM aN=tM a6 aI aJ aK aL aM aN:=by unfold hpI;rw[hk,hr,hl,hp,hm,hn,hq,hc,ho,hh,hs,ht,hw,hx];rfl
structure T7 (a0 a1 a2:aa)(a3:Int)(a4 a5 a6 a7 a8 a9 aA aB:aa)(aC:Int)(aD:aa)(aE aF aG aH:Int)(aI:Bool)(aJ aK:Int)(aL:aa)(aM aN:Int):Prop where
 k:kerOk a0 a1 a2 a3 a4=true
 r:rgOk a2.length a5=true
 l:layOk a6 a7=true
 p:pgI a2 a5 a6 a7=true
 m:mailOk aA aB=true
 n:decide (a9.length=aA.length)=true
 q:quarOk aC aD=true
 c:bU (Jz a9) a9.length=true
 o:objOk a6 a7 a8 a9 aH=true
 h:hoI a6 a7 a8 a9 aA aB aD aF=true
 s:inR aE 0 1073741823=true
 t:inR aF 0 1000000=true
 w:inR aG 0 1000=true
 x:inR aH 1 1000000=true
 j:tM a6 aI aJ aK aL aM aN=true
theorem pC (h:hpI a0 a1 a2 a3 a4 a5 a6 a7 a8 a9 aA aB aC aD aE aF aG aH aI aJ aK aL aM aN=true):T7 a0 a1 a2 a3 a4 a5 a6 a7 a8 a9 aA aB aC aD aE aF aG aH aI aJ aK aL aM aN:=by
 unfold hpI at h;simp only[Bool.and_eq_true]at h;obtain⟨hk,hr,hl,hp,hm,hn,hq,hc,ho,hh,hs,ht,hw,hx,hj⟩:=h;exact⟨hk,hr,hl,hp,hm,hn,hq,hc,ho,hh,hs,ht,hw,hx,hj⟩
theorem J0 (h:jbOk aJ aK aL aM aN=false):false=tM a6 true aJ aK aL aM aN:=by unfold tM;rw[h];rfl
theorem J1 (h:spI a6 aJ<0):false=tM a6 true aJ aK aL aM aN:=by unfold tM;rw[decide_eq_false (p:=0<=spI a6 aJ) (by omega)];simp
theorem J2 (h:jbOk aJ aK aL aM aN=true)(g:0<=spI a6 aJ):cg .geq (spI a6 aK) 0=tM a6 true aJ aK aL aM aN:=by unfold tM;rw[h,decide_eq_true g];rfl
theorem QW (h:bU (sA aD aF) aD.length=false)(hl:layOk a6 a7=true)(ho:objOk a6 a7 a8 a9 aH=true):hoI a6 a7 a8 a9 aA aB aD aF=false:=by rw[EQ hl ho,h,Bool.and_false]
theorem OE (i0:0<=i)(i1:i<aD.length)(h:aF<af aD i 2)(hl:layOk a6 a7=true):hpI a0 a1 a2 a3 a4 a5 a6 a7 a8 a9 aA aB aC aD aE aF aG aH aI aJ aK aL aM aN=false:=by
 by_cases ho:objOk a6 a7 a8 a9 aH=true
 ·exact LL (QW (bB i0 i1 (by unfold sA;exact decide_eq_false (by omega))) hl ho)
 ·exact LM (by simpa using ho)
theorem Oz (hl:layOk a6 a7=true)(h:pgS a2 a5 a6 a7=false):hpI a0 a1 a2 a3 a4 a5 a6 a7 a8 a9 aA aB aC aD aE aF aG aH aI aJ aK aL aM aN=false:=LN (by rw[Ge hl,h];rfl)
theorem Oy (hl:layOk a6 a7=true)(h:smS a2 a6=false):hpI a0 a1 a2 a3 a4 a5 a6 a7 a8 a9 aA aB aC aD aE aF aG aH aI aJ aK aL aM aN=false:=LN (by rw[Ge hl,h,Bool.and_false])
theorem Ou (hl:layOk a6 a7=true)(ho:objOk a6 a7 a8 a9 aH=true)(h:hoS a6 a7 a8 a9 aA aB aD=false):hpI a0 a1 a2 a3 a4 a5 a6 a7 a8 a9 aA aB aC aD aE aF aG aH aI aJ aK aL aM aN=false:=LL (by rw[EQ hl ho,h];rfl)
theorem SY (hl:layOk a6 a7=true)(h:pgS a2 a5 a6 a7=true)(g:smS a2 a6=true):pgI a2 a5 a6 a7=true:=by rw[Ge hl,h,g];rfl
theorem Sg (hl:layOk a6 a7=true)(ho:objOk a6 a7 a8 a9 aH=true)(h:hoS a6 a7 a8 a9 aA aB aD=true)(i2:(aD.length:Int)<=i)(g:upto (sA aD aF) i):hoI a6 a7 a8 a9 aA aB aD aF=true:=by rw[EQ hl ho,h,bg g i2];rfl
theorem TA (h:af aD i 2<=aF):sA aD aF i=true:=decide_eq_true h
end
theorem lU {a0 a1 a2 a4 a5 a6 a7 a8 a9 aA aB aD aL:aa}(h0:Rw [.sl [tI]] a0)(h1:Rw [tB] a1)(h2:Rw [tI,tI] a2)(h4:Rw [tI] a4)(h5:Rw [tI,tI] a5)(h6:Rw [tI,tI,tI] a6)(h7:Rw [tI,tI,tI] a7)(h8:Rw [tI,tI,tI,tI] a8)(h9:Rw [.sl [.sl [tI]]] a9)(h10:Rw [.sl [tI,tI]] aA)(h11:Rw [.sl [tI]] aB)(h13:Rw [tI,tI,tI] aD)(h21:Rw [tI] aL) 
 (hs:ak a0<=1048576/\ak a1<=1048576/\ak a2<=1048576/\ak a4<=1048576/\ak a5<=1048576/\ak a6<=1048576/\ak a7<=1048576/\ak a8<=1048576/\ak a9<=1048576/\ak aA<=1048576/\ak aB<=1048576/\ak aD<=1048576/\ak aL<=1048576):eR a0 a1 a2 a4 a5 a6 a7 a8 a9 aA aB aD aL:=by
 obtain⟨c0,c1,c2,c4,c5,c6,c7,c8,c9,c10,c11,c13,c21⟩:=hs;exact⟨MF h6 h7 h8 h9 h10 h11 h13 c6 c7 c8 c9 c10 c11 c13,h0,h1,h2,by unfold ak at c2;omega,h4,h5,by unfold ak at c5;omega,h21,by unfold ak at c21;omega⟩
end Go.V
namespace Go.V
def obD (a s ad:Int):Bool:=inR ad a (bu .sub .i64 (bu .add .i64 a s) 1)
def FN (os:aa)(ad j:Int):Bool:=obD (af os j 1) (af os j 2) ad
def ofI (os:aa)(ad:Int):Int:=cF (FN os ad) os.length
def ooI (b:Bool)(os:aa)(ad:Int):Int:=if b=true then ofI os ad else-1
theorem PZ {b:Bool}{os:aa}{ad:Int}(h:b=false):ooI b os ad= -1:=by subst h;rfl
theorem P0 {b:Bool}{os:aa}{ad:Int}(h:b=true):ooI b os ad=ofI os ad:=by subst h;rfl
theorem PW {sp lg:aa}{a s:Int}(h:okO sp lg a s=true):0<=a/\a<=2000/\1<=s/\s<=1000:=by
 unfold okO at h;simp only[Bool.and_eq_true,Bool.or_eq_true,decide_eq_true_eq]at h;obtain⟨_,⟨k,c⟩|⟨k,c⟩⟩:=h
 ·have e:=yE k;have q:0<=eS sp a:=by
   unfold dnK at k;by_cases w:0<=eS sp a
   ·exact w
   ·rw[if_neg w]at k;split at k<;>omega
  have t:=(dy q).2;change uH sp a (eS sp a)=true at t;obtain⟨t1,t2,t3⟩:=oX.1 (wg.1 t);have hs:=fh t1;have hk:=bE.1 hs.2.2.1;have w:dnI sp lg a=eS sp a:=by unfold dnI;rw[if_pos q]
  rw[w]at c;have b:=JC (s:=s) (by omega);omega
 ·have q:¬ 0<=eS sp a:=fun w=>by
   unfold dnK at k;rw[if_pos w]at k;split at k<;>omega
  have g:0<=ko lg a:=by
   unfold dnK at k;rw[if_neg q]at k;by_cases w:0<=ko lg a
   ·exact w
   ·rw[if_neg w]at k;omega
  have t:=(dy g).2;change vz lg a (ko lg a)=true at t;have w:dnI sp lg a=ko lg a:=by unfold dnI;rw[if_neg q,if_pos g]
  rw[w]at c;unfold vz lhB at t;rw[Bool.and_eq_true]at t;obtain⟨t1,t2,t3,t4⟩:=fH t.1;have u:=bE.1 t.2;have v:=bE.1 t1;have pf:0<=af lg (ko lg a) 1:=by rw[t2];unfold pfN;split<;>omega
  omega
theorem PR {sp lg os cs:aa}{nx i:Int}(h:objOk sp lg os cs nx=true)(i0:0<=i)(i1:i<os.length):0<=af os i 1/\af os i 1<=2000/\1<=af os i 2/\af os i 2<=1000:=by
 have t:=cI.1 h i i0 i1;unfold tY at t;simp only[Bool.and_eq_true]at t;exact PW t.2.2.2.2
structure Hb (os:aa):Prop where
 w:Rw [tI,tI,tI,tI] os
 l:os.length<=1099511627776
 b:∀ i:Int,0<=i->i<os.length->0<=af os i 1/\af os i 1<=2000/\1<=af os i 2/\af os i 2<=1000
theorem FO {os:aa}(O:Hb os){i:Int}(i0:0<=i)(i1:i<os.length):bu .add .i64 (af os i 1) (af os i 2)=af os i 1+af os i 2/\bu .sub .i64 (bu .add .i64 (af os i 1) (af os i 2)) 1=af os i 1+af os i 2-1:=by
 have b:=O.b i i0 i1;have e:bu .add .i64 (af os i 1) (af os i 2)=af os i 1+af os i 2:=bj (by omega);exact⟨e,by rw[e,cL (by omega)]⟩
theorem SQ {os:aa}{ad i:Int}(O:Hb os)(i0:0<=i)(i1:i<os.length)(h:ad<af os i 1\/bu .add .i64 (af os i 1) (af os i 2)<=ad):FN os ad i=false:=by
 have e:=FO O i0 i1;unfold FN obD;rw[e.2];rw[e.1]at h;cases c:inR ad (af os i 1) (af os i 1+af os i 2-1)with
 |false=>rfl
 |true=>have:=bE.1 c;omega
theorem SR {os:aa}{ad i:Int}(O:Hb os)(i0:0<=i)(i1:i<os.length)(g:af os i 1<=ad)(h:ad<bu .add .i64 (af os i 1) (af os i 2)):FN os ad i=true:=by
 have e:=FO O i0 i1;unfold FN obD;rw[e.2];rw[e.1]at h;exact bE.2 ⟨g,by omega⟩
theorem xt {a0 a1 a2:aa}{a3:Int}{a4 a5 a6 a7 a8 a9 aA aB:aa}{aC:Int}{aD:aa}{aE aF aG aH:Int}{aI:Bool}{aJ aK:Int}{aL:aa}{aM aN:Int}(w:Rw [tI,tI,tI,tI] a8)(l:a8.length<=1099511627776)(h:hpI a0 a1 a2 a3 a4 a5 a6 a7 a8 a9 aA aB aC aD aE aF aG aH aI aJ aK aL aM aN=true):Hb a8:=
 ⟨w,l,fun i i0 i1=>PR (pC h).o i0 i1⟩
end Go.V
namespace Go.V
def AD (es:aa):Nat->Int
 |0=>0
 |n+1=>if af es n 0=0 then AD es n else AD es n+1
def mpT (es:aa):Int:=AD es es.length
theorem FG {es:aa}:∀ {n:Nat},0<=AD es n/\AD es n<=n
 |0=>⟨Int.le_refl _,Int.le_refl _⟩
 | n+1=>by
   have:=FG (es:=es) (n:=n);unfold AD;split<;>omega
theorem My {es:aa}{i:Int}(i1:i<=es.length)(i2:(es.length:Int)<=i):AD es i.toNat=mpT es:=by unfold mpT;rw[show i.toNat=es.length by omega]
theorem PC {es:aa}{i:Int}(i0:0<=i)(h:af es i 0=0):AD es (i+1).toNat=AD es i.toNat:=by
 obtain⟨k,rfl⟩:=Int.eq_ofNat_of_zero_le i0;rw[show((k:Int)+1).toNat=k+1 by omega,show(k:Int).toNat=k by omega];show(if af es k 0=0 then _ else _)=_;rw[if_pos h]
theorem Mz {es:aa}{i:Int}(i0:0<=i)(h:af es i 0≠0):AD es (i+1).toNat=AD es i.toNat+1:=by
 obtain⟨k,rfl⟩:=Int.eq_ofNat_of_zero_le i0;rw[show((k:Int)+1).toNat=k+1 by omega,show(k:Int).toNat=k by omega];show(if af es k 0=0 then _ else _)=_;rw[if_neg h]
def hlV (o v:Int):Int:=if o<0 then 0 else v
def hlK (o:Int):Int:=if o<0 then 1 else 0
theorem JW {o v:Int}(h:o<0):hlV o v=0/\hlK o=1:=by unfold hlV hlK;rw[if_pos h,if_pos h];exact⟨rfl,rfl⟩
theorem EO {o v:Int}(h:¬ o<0):hlV o v=v/\hlK o=0:=by unfold hlV hlK;rw[if_neg h,if_neg h];exact⟨rfl,rfl⟩
def sfI (b:Bool)(m u:Int):Int:=if b=true then bu .sub .i64 m u else 0
theorem TE {b:Bool}{m u:Int}(h:b=false):sfI b m u=0:=by subst h;rfl
theorem TF {b:Bool}{m u:Int}(h:b=true):sfI b m u=bu .sub .i64 m u:=by subst h;rfl
end Go.V
namespace Go.V
def vC (us:aa):Nat->Int
 |0=>0
 |n+1=>if jS us n 0=true then vC us n+1 else vC us n
theorem A2 {us:aa}:∀ {n:Nat},0<=vC us n/\vC us n<=n
 |0=>by simp[vC]
 | n+1=>by
   have:=A2 (us:=us) (n:=n);unfold vC;split<;>omega
theorem C0 {us:aa}{i:Int}(hi:0<=i)(h:jS us i 0=true):vC us (i+1).toNat=vC us i.toNat+1:=by
 have e:((i.toNat:Nat):Int)=i:=Int.toNat_of_nonneg hi;rw[show(i+1).toNat=i.toNat+1 from by omega,vC,if_pos (by rw[e];exact h)]
theorem GT {us:aa}{i:Int}(hi:0<=i)(h:jS us i 0=false):vC us (i+1).toNat=vC us i.toNat:=by
 have e:((i.toNat:Nat):Int)=i:=Int.toNat_of_nonneg hi;rw[show(i+1).toNat=i.toNat+1 from by omega,vC,if_neg (by rw[e,h];decide)]
def ufN (cs us:aa):Int:=if framesOk cs us=true then vC us us.length else 0
theorem GR {cs us:aa}{i:Int}(h:framesOk cs us=true)(h0:i<=us.length)(h1:(us.length:Int)<=i):ufN cs us=vC us i.toNat:=by
 unfold ufN;rw[if_pos h,show i.toNat=us.length by omega]
theorem KR {cs us:aa}(h:framesOk cs us=false):ufN cs us=0:=by unfold ufN;rw[h];rfl
theorem Nn {cs us:aa}{i:Int}(h0:i<=us.length)(h1:(us.length:Int)<=i)(h:i=0\/framesOk cs us=true):ufN cs us=vC us i.toNat:=by
 rcases h with rfl|h
 ·unfold ufN;have:us.length=0:=by omega
  rw[this];simp[vC]
 ·exact GR h h0 h1
theorem Nm {cs us:aa}{i n:Int}(hn:n=vC us i.toNat)(h:i=0\/framesOk cs us=true)(hf:framesOk cs us=false):n=ufN cs us:=by
 rcases h with rfl|h
 ·rw[KR hf,hn];rfl
 ·rw[hf]at h;cases h
def ldV (cs us es:aa)(a:Int):Int:=if machOk cs us es=true/\leM es a≠0 then af (ax cs (leF es a) 0) (leK a) 0 else 0
def ldK (cs us es:aa)(a:Int):Int:=if machOk cs us es=true/\leM es a≠0 then 0 else 1
theorem Fa {cs us es:aa}{a:Int}(h:machOk cs us es=true)(h1:leM es a≠0):ldV cs us es a=af (ax cs (leF es a) 0) (leK a) 0/\ldK cs us es a=0:=by unfold ldV ldK;rw[if_pos ⟨h,h1⟩,if_pos ⟨h,h1⟩];exact⟨rfl,rfl⟩
theorem BZ {cs us es:aa}{a:Int}(h:machOk cs us es=false\/leM es a=0):ldV cs us es a=0/\ldK cs us es a=1:=by
 have:¬ (machOk cs us es=true/\leM es a≠0):=by rintro⟨x,y⟩;rcases h with q|q;rw[x]at q;cases q;exact y q
 unfold ldV ldK;rw[if_neg this,if_neg this];exact⟨rfl,rfl⟩
theorem O1 {cs us es:aa}{a:Int}(h:machOk cs us es=true)(h1:leM es a≠0):0<=leF es a/\leF es a<cs.length/\(ax cs (leF es a) 0).length=16:=by
 have t:=vX h;have ha:¬ a<0:=fun q=>h1 (oL q).1
 have p:=iZ (es:=es) ha;rw[p.1]at h1;rw[p.2.1];have f:=v9 t.2.1 h1;exact⟨f.1,f.2.1,vT t.1 f.1 f.2.1⟩
theorem L8 {cs us es:aa}{a:Int}(h:smM cs us es a=0):ldV cs us es a=0/\ldK cs us es a=1:=by
 cases q:machOk cs us es with
 |false=>exact BZ (.inl q)
 |true=>exact BZ (.inr (by rw[<- (o6 q).1];exact h))
theorem L9 {cs us es:aa}{a:Int}(h:smM cs us es a≠0):ldV cs us es a=af (ax cs (smF cs us es a) 0) (a%16) 0/\ldK cs us es a=0:=by
 have ok:=GK h;have sy:=o6 (a:=a) ok.1;have q:=Fa ok.1 (by rw[<-sy.1];exact h);exact⟨by rw[q.1,sy.2,(iZ (es:=es) (by omega)).2.2],q.2⟩
end Go.V
namespace Go.V
theorem EB {sp lg:aa}{a:Int}(h:dnK sp lg a=1):dnI sp lg a=eS sp a/\0<=eS sp a/\eS sp a<sp.length/\zm (af sp (eS sp a) 0) (af sp (eS sp a) 1) (af sp (eS sp a) 2) a=true:=by
 have q:0<=eS sp a:=by
  unfold dnK at h;by_cases w:0<=eS sp a
  ·exact w
  ·rw[if_neg w]at h;split at h<;>omega
 have t:=dy q;change eS sp a<sp.length/\uH sp a (eS sp a)=true at t;exact⟨by unfold dnI;rw[if_pos q],q,t.1,wg.1 t.2⟩
theorem QV {sp lg:aa}{a:Int}(F:Ha sp lg)(h:dnK sp lg a=1):spI sp (a/16)=dnI sp lg a:=by
 obtain⟨e,q,l,t⟩:=EB h;obtain⟨t1,t2,t3⟩:=oX.1 t;have p:a/16=af sp (eS sp a) 0:=by omega
 rw[e,p];refine cO (fun j j0 j1=>?_) q l (kj rfl);refine fO ?_;cases c:isSp sp (af sp (eS sp a) 0) j with
 |false=>rfl
 | true=>
   exfalso;have c':af sp j 0=af sp (eS sp a) 0:=of_decide_eq_true c;have:=F.ss j.toNat (eS sp a).toNat (by omega) (by omega) (by rw[Int.toNat_of_nonneg j0,Int.toNat_of_nonneg q];exact c');omega
end Go.V
namespace Go.V
theorem Hs {a b:Int}:bu .and .i64 a b=(nR a&&&nR b).toInt:=C6 _
theorem NU {m:Nat}(h:m<65536):bu .and .i64 (m:Int) 1=((m%2:Nat):Int):=by
 rw[Hs];have e:nR (m:Int)&&&nR 1=BitVec.ofNat 64 (m%2):=by
  apply BitVec.eq_of_toNat_eq;unfold nR;rw[BitVec.toNat_and,BitVec.ofInt_natCast,BitVec.toNat_ofNat,BitVec.toNat_ofNat];show(m%18446744073709551616)&&&1=_;rw[Nat.and_one_is_mod];omega
 rw[e,BitVec.toInt_eq_toNat_of_lt (by rw[BitVec.toNat_ofNat];omega),BitVec.toNat_ofNat];omega
theorem QS {n t:Nat}(ht:t<=15):Ng .shr .i64 (n:Int) (t:Int)=((n/2^t:Nat):Int):=by
 show Int.fdiv (n:Int) (2^(min (t:Int).toNat 64))=_;rw[show min (t:Int).toNat 64=t by omega,Int.fdiv_eq_ediv_of_nonneg _ (Int.le_of_lt (Int.pow_pos (by omega)))];rw[Int.natCast_ediv,Int.natCast_pow];rfl
theorem Au {b:Int}{t:Nat}(hb:0<=b)(hb2:b<65536)(ht:t<=15):hsB b t=(nR b).getLsbD t:=by
 obtain⟨n,rfl⟩:=Int.eq_ofNat_of_zero_le hb;have hs:slB (n:Int) (t:Int)=true:=QT.2 ⟨by omega,by omega,by omega⟩;have hd:n/2^t<65536:=Nat.lt_of_le_of_lt (Nat.div_le_self _ _) (by omega);unfold hsB;rw[hs,QS ht,NU hd];unfold nR;rw[BitVec.ofInt_natCast,BitVec.getLsbD_ofNat,Nat.testBit_eq_decide_div_mod_eq];rw[decide_eq_true (show t<64 by omega)];simp only[Bool.true_and];by_cases c:n/2^t%2=1
 ·rw[decide_eq_true c,decide_eq_true (by omega)]
 ·rw[decide_eq_false c,decide_eq_false (by omega)]
theorem Ko {a b:Int}(a0:0<=a)(a1:a<65536)(b0:0<=b)(b1:b<65536):0<=bu .or .i64 a b/\bu .or .i64 a b<65536:=by
 obtain⟨n,rfl⟩:=Int.eq_ofNat_of_zero_le a0;obtain⟨m,rfl⟩:=Int.eq_ofNat_of_zero_le b0;rw[FV];have e:nR (n:Int)|||nR (m:Int)=BitVec.ofNat 64 (n|||m):=by
  unfold nR;rw[BitVec.ofInt_natCast,BitVec.ofInt_natCast,BitVec.ofNat_or]
 have h:n|||m<2^16:=Nat.or_lt_two_pow (by omega) (by omega);rw[e,BitVec.toInt_eq_toNat_of_lt (by rw[BitVec.toNat_ofNat];omega),BitVec.toNat_ofNat];omega
theorem OL {a b:Int}{t:Nat}(a0:0<=a)(a1:a<65536)(b0:0<=b)(b1:b<65536)(ht:t<=15):hsB (bu .or .i64 a b) t=(hsB a t||hsB b t):=by
 have o:=Ko a0 a1 b0 b1;rw[Au o.1 o.2 ht,Au a0 a1 ht,Au b0 b1 ht,Ah]
theorem xK {p k b:Int}(h:spOk p k b=true):0<=b/\b<65536:=by
 have t:=(fh h).2.2.2;unfold bmOk at t;simp only[Bool.and_eq_true,bE]at t;obtain⟨⟨n0,n1⟩,b0,b1⟩:=t;have q:(2:Int)^(slN k).toNat<=2^16:=by
  have:=Nat.pow_le_pow_right (n:=2) (by omega) (show(slN k).toNat<=16 by omega)
  exact_mod_cast this
 have:(2:Int)^16=65536:=rfl;omega
theorem CZ {ss l:aa}{b:Int}{t:Nat}(b0:0<=b)(b1:b<65536)(ht:t<=15)(hs:∀ j:Nat,j<ss.length->0<=af ss j 2/\af ss j 2<65536):∀ n:Nat,n<=ss.length->(0<=CY ss l b n/\CY ss l b n<65536)/\(hsB (CY ss l b n) t=true↔hsB b t=true\/∃ j:Nat,j<n/\hasB l (af ss j 0)=true/\hsB (af ss j 2) t=true)
 |0,_=>⟨⟨b0,b1⟩,⟨.inl,fun h=>h.elim id (fun⟨j,q,_⟩=>absurd q (by omega))⟩⟩
 | n+1,hn=>by
   obtain⟨⟨u0,u1⟩,ih⟩:=CZ b0 b1 ht hs n (by omega);have g:=hs n (by omega);unfold CY;by_cases c:hasB l (af ss n 0)=true
   ·rw[if_pos c];refine⟨Ko u0 u1 g.1 g.2,?_⟩;rw[OL u0 u1 g.1 g.2 ht,Bool.or_eq_true,ih]
    constructor
    ·rintro((h|⟨j,q,r⟩)|h)
     ·exact .inl h
     ·exact .inr ⟨j,by omega,r⟩
     ·exact .inr ⟨n,by omega,c,h⟩
    ·rintro(h|⟨j,q,r,s⟩)
     ·exact .inl (.inl h)
     ·by_cases e:j=n
      ·subst e;exact .inr s
      ·exact .inl (.inr ⟨j,by omega,r,s⟩)
   ·rw[if_neg c];refine⟨⟨u0,u1⟩,?_⟩;rw[ih]
    constructor
    ·rintro(h|⟨j,q,r⟩)
     ·exact .inl h
     ·exact .inr ⟨j,by omega,r⟩
    ·rintro(h|⟨j,q,r,s⟩)
     ·exact .inl h
     ·by_cases e:j=n
      ·subst e;exact absurd r c
      ·exact .inr ⟨j,by omega,r,s⟩
end Go.V
namespace Go.V
def IL (es sp lg:aa)(p k:Int):Prop:=(∃ j:Nat,j<sp.length/\hasB (fpg es p) (af sp j 0)=true/\hsB (af sp j 2) (k/clsSz (af sp j 1))=true)\/∃ j:Nat,j<lg.length/\lhB (af lg j 0) (af lg j 1) (af lg j 2) (p*16+k)=true
def Kk (es sp lg:aa)(p k:Int):Prop:=(0<=spI sp p/\hsB (ubB es sp (spI sp p)) (k/clsSz (af sp (spI sp p) 1))=true)\/(spI sp p<0/\dnK sp lg (p*16+k)=3)
structure T8 (es fr sp lg:aa):Prop where
 l:∀ j:Nat,j<lg.length->∀ q:Int,af lg j 0<=q->q<af lg j 0+af lg j 1->(fpg es q).length=1
 m:∀ q:Int,0<=q->q<es.length->(peM es q≠0↔q∈rM sp lg)
 o:∀ q∈rM sp lg,q<es.length
 c:∀ i j:Nat,i<sp.length->j<sp.length->peF es (af sp i 0)=peF es (af sp j 0)->af sp i 1=af sp j 1
theorem T4 {es fr sp lg:aa}(h:pgI es fr sp lg=true):T8 es fr sp lg:=by
 unfold pgI at h;simp only[Bool.and_eq_true]at h;obtain⟨h1,h2,h3,h4,h5⟩:=h;have half:∀ i j:Nat,i<sp.length->j<i->peF es (af sp i 0)=peF es (af sp j 0)->af sp i 1=af sp j 1:=fun i j hi hj e=>by
  have a:=cy h5 i hi;unfold FA at a;have b:=cy a j (by omega);unfold Dk at b;rw[decide_eq_true e]at b;simp only[Bool.not_true,Bool.false_or]at b;unfold rf mshB at b;simp only[Bool.and_eq_true,decide_eq_true_eq]at b;exact b.2.2.1
 refine⟨fun j hj q q0 q1=>?_,fun q q0 q1=>?_,of_decide_eq_true h4,fun i j hi hj e=>?_⟩
 ·have a:=cy h2 j hj;unfold vW at a;rw[Bool.and_eq_true]at a;have b:=cy a.2 (q-af lg j 0).toNat (by omega);unfold JO at b;rw[show af lg j 0+((q-af lg j 0).toNat:Int)=q by omega]at b;exact of_decide_eq_true b
 ·have a:=cy h3 q.toNat (by omega);rw[Int.toNat_of_nonneg q0]at a;unfold vt at a;rw[Bool.and_eq_true]at a;have b:=eq_of_beq a.1;unfold mapB ownB at b;by_cases c:peM es q≠0
  ·rw[decide_eq_true c]at b;exact⟨fun _=>of_decide_eq_true b.symm,fun _=>c⟩
  ·rw[decide_eq_false c]at b;exact⟨fun x=>absurd x c,fun x=>absurd x (of_decide_eq_false b.symm)⟩
 ·by_cases c:i=j
  ·rw[c]
  ·by_cases d:j<i
   ·exact half i j hi d e
   ·exact(half j i hj (by omega) e.symm).symm
theorem Kq {es fr sp lg:aa}{p k:Int}(hl:layOk sp lg=true)(hp:pgI es fr sp lg=true)(hm:peM es p≠0)(k0:0<=k)(k1:k<16):IL es sp lg p k↔Kk es sp lg p k:=by
 have F:=Dj hl;have T:=T4 hp;have pr:0<=p/\p<es.length:=by
  by_cases c:0<=p/\p<es.length
  ·exact c
  ·exact absurd (za c).1 hm
 have self:hasB (fpg es p) p=true:=kV.2 ⟨hm,pr.1,pr.2,hm,rfl⟩;have lgp:∀ j:Nat,j<lg.length->lhB (af lg j 0) (af lg j 1) (af lg j 2) (p*16+k)=true->af lg j 0<=p/\p<af lg j 0+af lg j 1:=fun j hj h=>by
  unfold lhB at h;rw[Bool.and_eq_true]at h;obtain⟨t1,t2,t3,t4⟩:=fH h.1;have u:=bE.1 h.2;have v:af lg j 1=(af lg j 2+15)/16:=by rw[t2];unfold pfN;rw[if_pos t1]
  omega
 unfold IL Kk;by_cases c:0<=spI sp p
 ·have f:=dy c;change spI sp p<sp.length/\isSp sp p (spI sp p)=true at f;have e:af sp (spI sp p) 0=p:=of_decide_eq_true f.2;generalize hi:spI sp p=i at*;obtain⟨i,rfl⟩:=Int.eq_ofNat_of_zero_le c;have il:i<sp.length:=by omega
  have cl:=fD (fh (F.s i il)).2.2.1;have q0:0<=k/clsSz (af sp i 1):=Int.ediv_nonneg k0 (by omega);have q1:k/clsSz (af sp i 1)<=15:=by
   have:=Int.ediv_le_self (clsSz (af sp i 1)) k0;omega
  have cls:∀ j:Nat,j<sp.length->hasB (fpg es p) (af sp j 0)=true->af sp j 1=af sp i 1:=fun j hj h=>T.c j i hj il (by rw[e];exact(kV.1 h).2.2.2.2)
  obtain⟨t,ht⟩:=Int.eq_ofNat_of_zero_le q0;have ub:=(CZ (ss:=sp) (l:=fpg es p) (xK (F.s i il)).1 (xK (F.s i il)).2 (t:=t) (by omega) (fun j hj=>xK (F.s j hj)) sp.length (Nat.le_refl _)).2;rw[GQ (bE.2 ⟨c,by omega⟩),e,ht,ub]
  constructor
  ·rintro(⟨j,hj,h,b⟩|⟨j,hj,h⟩)
   ·refine .inl ⟨c,.inr ⟨j,hj,h,?_⟩⟩;rw[cls j hj h,ht]at b;exact b
   ·have:=lgp j hj h;exact(F.sl i j il hj (by omega) (by omega)).elim
  ·rintro(⟨_,h|⟨j,hj,h,b⟩⟩|⟨h,_⟩)
   ·exact .inl ⟨i,il,by rw[e];exact self,by rw[ht];exact h⟩
   ·exact .inl ⟨j,hj,h,by rw[cls j hj h,ht];exact b⟩
   ·omega
 ·have ns:∀ j:Nat,j<sp.length->af sp j 0≠p:=fun j hj h=>c (gz hj (kj h))
  have ow:=(T.m p pr.1 pr.2).1 hm;have one:(fpg es p).length=1:=by
   rcases List.mem_append.1 ow with h|h
   ·obtain⟨j,hj,e⟩:=gY.1 h;exact absurd e (ns j hj)
   ·obtain⟨j,hj,h0,h1⟩:=jd.1 h;exact T.l j hj p h0 (by omega)
  have nh:∀ j:Nat,j<sp.length->¬ hasB (fpg es p) (af sp j 0)=true:=fun j hj h=>by
   obtain⟨a,ha,ea⟩:=jJ.1 h;obtain⟨b,hb,eb⟩:=jJ.1 self;have:a=b:=by omega
   subst this;exact ns j hj (ea.symm.trans eb)
  have fs:¬ 0<=eS sp (p*16+k):=fun h=>by
   have t:=dy h;change eS sp (p*16+k)<sp.length/\uH sp (p*16+k) (eS sp (p*16+k))=true at t;obtain⟨t1,t2,t3⟩:=oX.1 (wg.1 t.2);refine ns (eS sp (p*16+k)).toNat (by omega) ?_;rw[Int.toNat_of_nonneg h];omega
  have dk:dnK sp lg (p*16+k)=3↔∃ j:Nat,j<lg.length/\lhB (af lg j 0) (af lg j 1) (af lg j 2) (p*16+k)=true:=by
   unfold dnK;rw[if_neg fs];have fi:0<=ko lg (p*16+k)↔∃ j:Nat,j<lg.length/\lhB (af lg j 0) (af lg j 1) (af lg j 2) (p*16+k)=true:=oI;rw[<-fi];split
   ·exact⟨fun _=>by assumption,fun _=>rfl⟩
   ·exact⟨fun h=>by omega,fun h=>absurd h (by assumption)⟩
  rw[dk]
  constructor
  ·rintro(⟨j,hj,h,_⟩|h)
   ·exact absurd h (nh j hj)
   ·exact .inr ⟨by omega,h⟩
  ·rintro(⟨h,_⟩|⟨_,h⟩)
   ·exact absurd h c
   ·exact .inr h
end Go.V
namespace Go.V
theorem HT {sp lg os cs b x qs:aa}{c:Int}(h:hoI sp lg os cs b x qs c=true){j:Int}(j0:0<=j)(j1:j<(ifL b x).length):dnK sp lg (af (ifL b x) j 0)=1:=by
 unfold hoI at h;simp only[Bool.and_eq_true]at h;have t:=cI.1 h.2.2.1 j j0 j1;unfold jA hlB at t;simp only[Bool.and_eq_true,decide_eq_true_eq]at t;exact t.1
def KA (sp lg fl:aa):Nat->Int
 |0=>0
 |n+1=>KA sp lg fl n+clsSz (af sp (dnI sp lg (af fl n 0)) 1)
theorem td {k:Int}:0<=clsSz k/\clsSz k<=8:=by unfold clsSz;repeat' split<;>omega
theorem Gj {sp lg fl:aa}:∀ {n:Nat},0<=KA sp lg fl n/\KA sp lg fl n<=8*n
 |0=>⟨Int.le_refl _,by show(0:Int)<=_;omega⟩
 | n+1=>by
   have:=Gj (sp:=sp) (lg:=lg) (fl:=fl) (n:=n);have k:=td (k:=af sp (dnI sp lg (af fl n 0)) 1);unfold KA;omega
theorem Qg {sp lg fl:aa}{i:Int}(i0:0<=i):KA sp lg fl (i+1).toNat=KA sp lg fl i.toNat+clsSz (af sp (dnI sp lg (af fl i 0)) 1):=by
 obtain⟨k,rfl⟩:=Int.eq_ofNat_of_zero_le i0;rw[show((k:Int)+1).toNat=k+1 by omega,show(k:Int).toNat=k by omega];rfl
def Kh (s:Int):Int:=if 0<=clsOf s then clsSz (clsOf s)else s
def DO (os:aa):Nat->Int
 |0=>0
 |n+1=>DO os n+Kh (af os n 2)
theorem MJ {s:Int}(h:1<=s/\s<=1000):0<=Kh s/\Kh s<=1000:=by
 unfold Kh;split
 ·have:=td (k:=clsOf s);omega
 ·omega
theorem AK {os:aa}(O:Hb os):∀ {n:Nat},n<=os.length->0<=DO os n/\DO os n<=1000*n
 |0,_=>⟨Int.le_refl _,by show(0:Int)<=_;omega⟩
 | n+1,h=>by
   have:=AK O (n:=n) (by omega);have b:=O.b n (by omega) (by omega);have k:=MJ (s:=af os n 2) (by omega);unfold DO;omega
theorem ML {os:aa}{i:Int}(i0:0<=i)(h:0<=clsOf (af os i 2)):DO os (i+1).toNat=DO os i.toNat+clsSz (clsOf (af os i 2)):=by
 obtain⟨k,rfl⟩:=Int.eq_ofNat_of_zero_le i0;rw[show((k:Int)+1).toNat=k+1 by omega,show(k:Int).toNat=k by omega];show DO os k+Kh (af os k 2)=_;unfold Kh;rw[if_pos h]
theorem PS {os:aa}{i:Int}(i0:0<=i)(h:¬ 0<=clsOf (af os i 2)):DO os (i+1).toNat=DO os i.toNat+af os i 2:=by
 obtain⟨k,rfl⟩:=Int.eq_ofNat_of_zero_le i0;rw[show((k:Int)+1).toNat=k+1 by omega,show(k:Int).toNat=k by omega];show DO os k+Kh (af os k 2)=_;unfold Kh;rw[if_neg h]
end Go.V
namespace Go.V
theorem Ev {k:Int}(h:inR k 0 3=true):clsSz k=1\/clsSz k=2\/clsSz k=4\/clsSz k=8:=by
 have:=bE.1 h;unfold clsSz;repeat' split<;>omega
theorem HR {c d:Int}(hc:c=1\/c=2\/c=4\/c=8)(d0:0<=d)(d1:d<=15)(h:d%c=0):d+c<=16:=by
 rcases hc with rfl|rfl|rfl|rfl<;>omega
theorem MI {es fr sp lg:aa}{a s i:Int}(hl:layOk sp lg=true)(hp:pgI es fr sp lg=true)(h:okO sp lg a s=true)(i0:0<=i)(i1:i<s):0<=(a+i)/16/\(a+i)/16<es.length/\peM es ((a+i)/16)≠0:=by
 have F:=Dj hl;have T:=T4 hp
 suffices h:0<=(a+i)/16/\(a+i)/16∈rM sp lg from⟨h.1,T.o _ h.2,(T.m _ h.1 (T.o _ h.2)).2 h.2⟩
 unfold okO at h;simp only[Bool.and_eq_true,Bool.or_eq_true,decide_eq_true_eq]at h;obtain⟨o,⟨k,c⟩|⟨k,c⟩⟩:=h
 ·obtain⟨e,q,l,t⟩:=EB k;obtain⟨t1,t2,t3⟩:=oX.1 t;obtain⟨e1,e2⟩:=oY t;have hs:=fh t1;rw[e]at c;have b:=JC (s:=s) (by have:=bE.1 hs.2.2.1;omega);rw[<-c]at b;have o':KM sp a (eS sp a)=0:=by rw[<- (Lo (lg:=lg) q).2];exact o
  unfold KM at o';rw[e2]at o';have fit:=HR (Ev hs.2.2.1) (by omega) (by omega) o';have p:(a+i)/16=af sp (eS sp a) 0:=by omega
  rw[p];refine⟨hs.1,List.mem_append.2 (.inl (gY.2 ⟨(eS sp a).toNat,by omega,?_⟩))⟩;rw[Int.toNat_of_nonneg q]
 ·have q:¬ 0<=eS sp a:=fun w=>by
   unfold dnK at k;rw[if_pos w]at k;split at k<;>omega
  have g:0<=ko lg a:=by
   unfold dnK at k;rw[if_neg q]at k;by_cases w:0<=ko lg a
   ·exact w
   ·rw[if_neg w]at k;omega
  have t:=dy g;change ko lg a<lg.length/\vz lg a (ko lg a)=true at t;have w:dnI sp lg a=ko lg a:=by unfold dnI;rw[if_neg q,if_pos g]
  rw[w]at c;rw[(Ln q g).2]at o;obtain⟨tl,tt⟩:=t;unfold O6 loI at o;unfold vz at tt;rw[if_pos tt]at o;unfold lhB at tt;rw[Bool.and_eq_true]at tt;obtain⟨t1,t2,t3,t4⟩:=fH tt.1;have v:af lg (ko lg a) 1=(af lg (ko lg a) 2+15)/16:=by rw[t2];unfold pfN;rw[if_pos t1]
  refine⟨by omega,List.mem_append.2 (.inr (jd.2 ⟨(ko lg a).toNat,by omega,?_,?_⟩))⟩
  ·rw[Int.toNat_of_nonneg g];omega
  ·rw[Int.toNat_of_nonneg g];omega
end Go.V
namespace Go.V
def TR (cs es:aa)(a:Int):Int:=af (ax cs (peF es (a/16)) 0) (a%16) 0
def Et (cs es:aa)(a:Int):Nat->aa
 |0=>[]
 |n+1=>Et cs es a n++[[.i (TR cs es (a+n))]]
theorem wP {cs es:aa}{a:Int}:∀ n,(Et cs es a n).length=n
 |0=>rfl
 |n+1=>by rw[Et,List.length_append,wP n];rfl
structure DJ (cs es:aa)(a i:Int)(o:aa):Prop where
 e:o=Et cs es a i.toNat
theorem RY {cs es:aa}{a:Int}:DJ cs es a 0 []:=⟨rfl⟩
theorem N5 {cs es o:aa}{a i:Int}(h:DJ cs es a i o)(i0:0<=i):DJ cs es a (i+1) (o++[[.i (TR cs es (a+i))]]):=⟨by
 rw[h.e,show(i+1).toNat=i.toNat+1 by omega,Et,Int.toNat_of_nonneg i0]⟩
theorem Lh {cs es o:aa}{a i s:Int}(h:DJ cs es a i o)(h0:i<=s\/i=0)(h1:s<=i):o=Et cs es a s.toNat:=by
 rw[h.e,show i.toNat=s.toNat by omega]
def ctsL (b:Bool)(os cs es:aa)(id:Int):aa:=if b=true/\0<=oiI os id then Et cs es (af os (oiI os id) 1) (af os (oiI os id) 2).toNat else[]
def ctsB (b:Bool)(os:aa)(id:Int):Bool:=b&&oiB os id
theorem BD {b:Bool}{os cs es:aa}{id:Int}(h:b=false):ctsL b os cs es id=[]/\ctsB b os id=false:=by
 subst h;exact⟨if_neg (by simp),rfl⟩
theorem BE {b:Bool}{os cs es:aa}{id:Int}(h:oiI os id<0):ctsL b os cs es id=[]/\ctsB b os id=false:=by
 refine⟨if_neg (by omega),?_⟩;unfold ctsB oiB;rw[decide_eq_false (by omega)];simp
theorem HN {b:Bool}{os cs es:aa}{id:Int}(h:b=true)(g:0<=oiI os id):ctsL b os cs es id=Et cs es (af os (oiI os id) 1) (af os (oiI os id) 2).toNat/\ctsB b os id=true:=by
 refine⟨if_pos ⟨h,g⟩,?_⟩;unfold ctsB oiB;rw[decide_eq_true g,h];rfl
structure RQ (cs es os:aa):Prop where
 b:Hb os
 f:∀ j:Int,0<=j->j<os.length->∀ i:Int,0<=i->i<af os j 2->0<=peF es ((af os j 1+i)/16)/\peF es ((af os j 1+i)/16)<cs.length/\(ax cs (peF es ((af os j 1+i)/16)) 0).length=16
theorem tZ {a0 a1 a2:aa}{a3:Int}{a4 a5 a6 a7 a8 a9 aA aB:aa}{aC:Int}{aD:aa}{aE aF aG aH:Int}{aI:Bool}{aJ aK:Int}{aL:aa}{aM aN:Int}(w:Rw [tI,tI,tI,tI] a8)(l:a8.length<=1099511627776)(h:hpI a0 a1 a2 a3 a4 a5 a6 a7 a8 a9 aA aB aC aD aE aF aG aH aI aJ aK aL aM aN=true):RQ a0 a2 a8:=by
 have t:=pC h;have mk:machOk a0 a1 a2=true:=by have k:=t.k;unfold kerOk at k;simp only[Bool.and_eq_true]at k;first|exact k.1|exact k.1.1
 refine⟨xt w l h,fun j j0 j1 i i0 i1=>?_⟩;have o:=cI.1 t.o j j0 j1;unfold tY at o;simp only[Bool.and_eq_true]at o;have m:=MI t.l t.p o.2.2.2.2 i0 i1;have c:=vX mk;have f:=v9 c.2.1 m.2.2;exact⟨f.1,f.2.1,vT c.1 f.1 f.2.1⟩
end Go.V
namespace Go.V
def Lr (a b:aa)(i:Int):Bool:=eqB (af a i 0) (af b i 0)
def eqR (a b:aa):Bool:=decide (a.length=b.length)&&bU (Lr a b) a.length
theorem Ls {a b:aa}(h:(a.length:Int)≠b.length):eqR a b=false:=by unfold eqR;rw[decide_eq_false (by omega)];rfl
theorem Lt {a b:aa}{i:Int}(i0:0<=i)(i1:i<a.length)(h:af a i 0≠af b i 0):eqR a b=false:=by unfold eqR;rw[bB (p:=Lr a b) i0 i1 (tn h)];simp
theorem Lu {a b:aa}{i:Int}(h:(a.length:Int)=b.length)(u:upto (Lr a b) i)(g:(a.length:Int)<=i):eqR a b=true:=by unfold eqR;rw[decide_eq_true (by omega),bg u g];rfl
def Dr (E:Nat->Bool)(os:aa)(id:Int):Nat->Bool
 |0=>false
 |n+1=>if af os n 0=id then E n else Dr E os id n
theorem M4 {E:Nat->Bool}{os:aa}{id i:Int}(i0:0<=i)(h:af os i 0=id):Dr E os id (i+1).toNat=E i.toNat:=by
 rw[show(i+1).toNat=i.toNat+1 by omega,Dr,Int.toNat_of_nonneg i0,if_pos h]
theorem M5 {E:Nat->Bool}{os:aa}{id i:Int}(i0:0<=i)(h:af os i 0≠id):Dr E os id (i+1).toNat=Dr E os id i.toNat:=by
 rw[show(i+1).toNat=i.toNat+1 by omega,Dr,Int.toNat_of_nonneg i0,if_neg h]
theorem CH {E:Nat->Bool}{os:aa}{id:Int}:∀ n:Nat,(∀ j:Nat,j<n->af os j 0≠id)->Dr E os id n=false
 |0,_=>rfl
 |n+1,h=>by rw[Dr,if_neg (h n (by omega))];exact CH n (fun j hj=>h j (by omega))
theorem GB {E:Nat->Bool}{os:aa}{id:Int}{i:Nat}(hi:af os i 0=id):∀ n:Nat,i<n->(∀ j:Nat,i<j->j<n->af os j 0≠id)->Dr E os id n=E i
 |0,h,_=>absurd h (by omega)
 | n+1,h,g=>by
   by_cases c:i=n
   ·subst c;rw[Dr,if_pos hi]
   ·rw[Dr,if_neg (g n (by omega) (by omega))];exact GB hi n (by omega) (fun j j0 j1=>g j j0 (by omega))
theorem M3 {E:Nat->Bool}{sp lg os cs:aa}{nx id:Int}(h:objOk sp lg os cs nx=true):Dr E os id os.length=(oiB os id&&E (oiI os id).toNat):=by
 have uniq:∀ i j:Nat,i<j->j<os.length->af os i 0≠af os j 0:=fun i j hi hj e=>by
  have t:=cy h j hj;unfold tY at t;simp only[Bool.and_eq_true,Bool.not_eq_true']at t;have n:=t.2.2.2.1;unfold oiB at n;have n':=of_decide_eq_false n;have g:=gz (p:=jR (os.take (j:Int).toNat) (af os j 0)) (n:=(os.take (j:Int).toNat).length) (i:=i) (by rw[List.length_take];omega) (by
   refine kj ?_;rw[<-e];unfold af;simp only[List.getD_eq_getElem?_getD,Int.toNat_natCast];rw[List.getElem?_take_of_lt hi])
  exact n' g
 unfold oiB;by_cases c:0<=oiI os id
 ·have f:=dy c;change oiI os id<os.length/\jR os id (oiI os id)=true at f;have e:af os (oiI os id) 0=id:=of_decide_eq_true f.2;rw[decide_eq_true c,Bool.true_and];refine GB (i:=(oiI os id).toNat) (by rw[Int.toNat_of_nonneg c];exact e) _ (by omega) (fun j j0 j1 q=>?_);refine uniq (oiI os id).toNat j j0 j1 ?_;rw[Int.toNat_of_nonneg c,e,q]
 ·rw[decide_eq_false c,Bool.false_and];exact CH _ (fun j hj q=>c (gz hj (kj q)))
end Go.V
namespace Go.V
def rq (k b:Int):Nat->aa
 |0=>[]
 |n+1=>if hsB b ((n:Int)/clsSz k)=true then rq k b n++[[.i n]]else rq k b n
def sclL (p k b:Int):aa:=if spOk p k b=true then rq k b 16 else[]
theorem nD {k b:Int}:∀ n:Nat,(rq k b n).length<=n
 |0=>Nat.le_refl _
 | n+1=>by
   have:=nD (k:=k) (b:=b) n;unfold rq;split
   ·rw[List.length_append];show _+1<=_;omega
   ·omega
theorem um {p k b:Int}:(sclL p k b).length<=16:=by unfold sclL;split;exact nD 16;exact Nat.zero_le _
structure pP (k b i:Int)(o:aa):Prop where
 e:o=rq k b i.toNat
theorem GD {k b:Int}:pP k b 0 []:=⟨rfl⟩
theorem zn {k b i:Int}{o:aa}(h:pP k b i o)(i0:0<=i)(g:hsB b (i/clsSz k)=true):pP k b (i+1) (o++[[.i i]]):=⟨by
 rw[h.e,show(i+1).toNat=i.toNat+1 by omega,rq,Int.toNat_of_nonneg i0,if_pos g]⟩
theorem CU {k b i:Int}{o:aa}(h:pP k b i o)(i0:0<=i)(g:hsB b (i/clsSz k)=false):pP k b (i+1) o:=⟨by
 rw[h.e,show(i+1).toNat=i.toNat+1 by omega,rq,Int.toNat_of_nonneg i0,g];rfl⟩
theorem KL {p k b:Int}(h:spOk p k b=false):sclL p k b=[]:=by unfold sclL;rw[h];rfl
theorem CQ {p k b i:Int}{o:aa}(h:pP k b i o)(s:spOk p k b=true)(i0:i<=16)(i1:16<=i):o=sclL p k b:=by
 have:i=16:=by omega
 subst this;rw[h.e];unfold sclL;rw[if_pos s];rfl
theorem tR {k b c:Int}:∀ n:Nat,hasB (rq k b n) c=true↔0<=c/\c<n/\hsB b (c/clsSz k)=true
 |0=>⟨fun h=>absurd (tE.1 h) (List.not_mem_nil),fun h=>by omega⟩
 | n+1=>by
   have ih:=tR (k:=k) (b:=b) (c:=c) n;unfold rq;by_cases g:hsB b ((n:Int)/clsSz k)=true
   ·rw[if_pos g,BJ,Bool.or_eq_true,ih,BK]
    constructor
    ·rintro(⟨a,b,q⟩|rfl)
     ·exact⟨a,by omega,q⟩
     ·exact⟨by omega,by omega,g⟩
    ·rintro⟨a,b,q⟩;by_cases e:(n:Int)=c
     ·exact .inr e
     ·exact .inl ⟨a,by omega,q⟩
   ·rw[if_neg g,ih]
    constructor
    ·rintro⟨a,b,q⟩;exact⟨a,by omega,q⟩
    ·rintro⟨a,b,q⟩;refine⟨a,?_,q⟩;by_cases e:(n:Int)=c
     ·subst e;exact absurd q g
     ·omega
def Hi (sp:aa):Nat->Int
 |0=>0
 |n+1=>Hi sp n+(sclL (af sp n 0) (af sp n 1) (af sp n 2)).length
def H8 (lg:aa):Nat->Int
 |0=>0
 |n+1=>H8 lg n+af lg n 2
def lcI (sp lg:aa):Int:=if layOk sp lg=true then Hi sp sp.length+H8 lg lg.length else 0
theorem AY {sp:aa}:∀ n:Nat,0<=Hi sp n/\Hi sp n<=16*n
 |0=>⟨Int.le_refl _,by show(0:Int)<=_;omega⟩
 | n+1=>by
   have:=AY (sp:=sp) n;have b:=um (p:=af sp n 0) (k:=af sp n 1) (b:=af sp n 2);unfold Hi;omega
theorem Fh {sp lg:aa}(F:Ha sp lg):∀ n:Nat,n<=lg.length->0<=H8 lg n/\H8 lg n<=1000*n
 |0,_=>⟨Int.le_refl _,by show(0:Int)<=_;omega⟩
 | n+1,h=>by
   have:=Fh F n (by omega);have b:=bE.1 (fH (F.l n (by omega))).1;unfold H8;omega
theorem M9 {sp:aa}{i:Int}(i0:0<=i):Hi sp (i+1).toNat=Hi sp i.toNat+(sclL (af sp i 0) (af sp i 1) (af sp i 2)).length:=by
 rw[show(i+1).toNat=i.toNat+1 by omega,Hi,Int.toNat_of_nonneg i0]
theorem Mb {lg:aa}{i:Int}(i0:0<=i):H8 lg (i+1).toNat=H8 lg i.toNat+af lg i 2:=by
 rw[show(i+1).toNat=i.toNat+1 by omega,H8,Int.toNat_of_nonneg i0]
theorem OZ {sp lg:aa}(h:layOk sp lg=false):lcI sp lg=0:=by unfold lcI;rw[h];rfl
def Ai (ls:aa):Nat->Int
 |0=>0
 |n+1=>Ai ls n+(ax ls n 0).length*clsSz n
end Go.V
namespace Go.V
structure uJ (f:Int->Bool)(o:aa):Prop where
 w:Rw [tB] o
 l:o.length=16
 v:∀ c:Int,0<=c->c<16->jS o c 0=f c
theorem m8 {f g:Int->Bool}{o:aa}(h:uJ f o)(e:∀ c:Int,0<=c->c<16->f c=g c):uJ g o:=⟨h.w,h.l,fun c c0 c1=>(h.v c c0 c1).trans (e c c0 c1)⟩
theorem HU {es:aa}{n i:Int}{r:ay}(h0:0<=n)(h1:n<es.length)(hi:0<=i):jS (es.set n.toNat r) i 0=if i=n then SE (r.getD 0 .g)else jS es i 0:=by
 unfold jS;simp only[List.getD_eq_getElem?_getD,List.getElem?_set];by_cases c:i=n
 ·subst c;rw[if_pos rfl,if_pos (by omega),if_pos rfl];rfl
 ·rw[if_neg (by omega),if_neg c]
theorem FD {f:Int->Bool}{o:aa}{n:Int}{b:Bool}(h:uJ f o)(h0:0<=n)(h1:n<16):uJ (fun c=>if c=n then b else f c) (o.set n.toNat [.v (.bool b)]):=by
 have l:=h.l;refine⟨⟨by rw[List.length_set];exact h.w.1,fun e he=>?_⟩,by rw[List.length_set,l],fun c c0 c1=>?_⟩
 ·rcases List.mem_or_eq_of_mem_set he with q|q
  ·exact h.w.2 e q
  ·subst q;exact⟨trivial,trivial⟩
 ·rw[HU h0 (by omega) c0];by_cases q:c=n
  ·rw[if_pos q,if_pos q];rfl
  ·rw[if_neg q,if_neg q];exact h.v c c0 c1
def Mp (f:Int->Bool)(x:aa)(i c:Int):Bool:=f c||hasB (x.take i.toNat) c
theorem Pv {f:Int->Bool}{x o:aa}(h:uJ f o):uJ (Mp f x 0) o:=m8 h (fun c _ _=>by
 unfold Mp;have:hasB (x.take (0:Int).toNat) c=false:=by
  cases q:hasB (x.take (0:Int).toNat) c with
  |false=>rfl
  |true=>obtain⟨k,hk,_⟩:=jJ.1 q;simp at hk
 rw[this];simp)
theorem tF {x:aa}{i c:Int}(i0:0<=i):hasB (x.take i.toNat) c=true↔∃ k:Nat,(k:Int)<i/\k<x.length/\af x k 0=c:=by
 rw[jJ];have g:∀ k:Nat,(k:Int)<i->af (x.take i.toNat) k 0=af x k 0:=fun k hk=>by
  unfold af;simp only[List.getD_eq_getElem?_getD,Int.toNat_natCast];rw[List.getElem?_take_of_lt (by omega)]
 constructor
 ·rintro⟨k,hk,e⟩;rw[List.length_take]at hk;exact⟨k,by omega,by omega,by rw[<-g k (by omega)];exact e⟩
 ·rintro⟨k,hk,hl,e⟩;exact⟨k,by rw[List.length_take];omega,by rw[g k hk];exact e⟩
theorem Mq {f:Int->Bool}{x o:aa}{i:Int}(h:uJ (Mp f x i) o)(i0:0<=i)(i1:i<x.length)(c0:0<=af x i 0)(c1:af x i 0<16):uJ (Mp f x (i+1)) (o.set (af x i 0).toNat [.v (.bool true)]):=m8 (FD h c0 c1) (fun c _ _=>by
 unfold Mp;rw[Bool.eq_iff_iff];by_cases q:c=af x i 0
 ·rw[if_pos q];have:hasB (x.take (i+1).toNat) c=true:=(tF (by omega)).2 ⟨i.toNat,by omega,by omega,by rw[Int.toNat_of_nonneg i0];exact q.symm⟩;rw[this];simp
 ·rw[if_neg q,Bool.or_eq_true,Bool.or_eq_true,tF i0,tF (by omega)]
  constructor
  ·rintro(a|⟨k,hk,r⟩)
   ·exact .inl a
   ·exact .inr ⟨k,by omega,r⟩
  ·rintro(a|⟨k,hk,hl,e⟩)
   ·exact .inl a
   ·by_cases z:(k:Int)=i
    ·rw[z]at e;exact absurd e.symm q
    ·exact .inr ⟨k,by omega,hl,e⟩)
def Hh (f g:Int->Bool)(i c:Int):Bool:=f c||(decide (c<i)&&g c)
theorem Pw {f g:Int->Bool}{o:aa}(h:uJ f o):uJ (Hh f g 0) o:=m8 h (fun c c0 _=>by unfold Hh;rw[decide_eq_false (by omega)];simp)
theorem Cc {f g:Int->Bool}{o:aa}{i:Int}{b:Bool}(h:uJ (Hh f g i) o)(i0:0<=i)(i1:i<16)(e:b=(f i||g i)):uJ (Hh f g (i+1)) (o.set i.toNat [.v (.bool b)]):=m8 (FD h i0 i1) (fun c _ _=>by
 unfold Hh;by_cases q:c=i
 ·subst q;rw[if_pos rfl,e,decide_eq_true (by omega)];simp
 ·rw[if_neg q];by_cases z:c<i
  ·rw[decide_eq_true z,decide_eq_true (by omega)]
  ·rw[decide_eq_false z,decide_eq_false (by omega)])
theorem FC {f g:Int->Bool}{o:aa}{i:Int}(h:uJ (Hh f g i) o)(i0:0<=i)(i1:i<16):jS o i 0=f i:=by
 rw[h.v i i0 i1];unfold Hh;rw[decide_eq_false (by omega)];simp
theorem Ik {f g:Int->Bool}{o:aa}{i:Int}(h:uJ (Hh f g i) o)(i1:16<=i):uJ (fun c=>f c||g c) o:=m8 h (fun c _ c1=>by unfold Hh;rw[decide_eq_true (by omega),Bool.true_and])
def Ic (es sp:aa)(p:Int):Nat->Int->Bool
 |0,_=>false
 |n+1,c=>Ic es sp p n c||(hasB (fpg es p) (af sp n 0)&&hasB (sclL (af sp n 0) (af sp n 1) (af sp n 2)) c)
def Fw (es sp lg:aa)(p:Int):Nat->Int->Bool
 |0,c=>Ic es sp p sp.length c
 |n+1,c=>Fw es sp lg p n c||lhB (af lg n 0) (af lg n 1) (af lg n 2) (p*16+c)
theorem B9 {es sp:aa}{p c:Int}:∀ n:Nat,Ic es sp p n c=true↔∃ j:Nat,j<n/\hasB (fpg es p) (af sp j 0)=true/\hasB (sclL (af sp j 0) (af sp j 1) (af sp j 2)) c=true
 |0=>⟨(fun h=>by cases h),fun⟨j,h,_⟩=>absurd h (by omega)⟩
 | n+1=>by
   rw[Ic,Bool.or_eq_true,B9 n,Bool.and_eq_true]
   constructor
   ·rintro(⟨j,h,q⟩|h)
    ·exact⟨j,by omega,q⟩
    ·exact⟨n,by omega,h⟩
   ·rintro⟨j,h,q⟩;by_cases e:j=n
    ·subst e;exact .inr q
    ·exact .inl ⟨j,by omega,q⟩
theorem B8 {es sp lg:aa}{p c:Int}:∀ n:Nat,Fw es sp lg p n c=true↔Ic es sp p sp.length c=true\/∃ j:Nat,j<n/\lhB (af lg j 0) (af lg j 1) (af lg j 2) (p*16+c)=true
 |0=>⟨.inl,fun h=>h.elim id (fun⟨j,h,_⟩=>absurd h (by omega))⟩
 | n+1=>by
   rw[Fw,Bool.or_eq_true,B8 n]
   constructor
   ·rintro((h|⟨j,h,q⟩)|h)
    ·exact .inl h
    ·exact .inr ⟨j,by omega,q⟩
    ·exact .inr ⟨n,by omega,h⟩
   ·rintro(h|⟨j,h,q⟩)
    ·exact .inl (.inl h)
    ·by_cases e:j=n
     ·subst e;exact .inr q
     ·exact .inl (.inr ⟨j,by omega,q⟩)
theorem Fx {es sp lg:aa}{p c:Int}(hl:layOk sp lg=true)(c0:0<=c)(c1:c<16):Fw es sp lg p lg.length c=true↔IL es sp lg p c:=by
 rw[B8,B9];unfold IL;have F:=Dj hl;have e:∀ j:Nat,j<sp.length->(hasB (sclL (af sp j 0) (af sp j 1) (af sp j 2)) c=true↔hsB (af sp j 2) (c/clsSz (af sp j 1))=true):=fun j hj=>by
  unfold sclL;rw[if_pos (F.s j hj),tR];exact⟨fun h=>h.2.2,fun h=>⟨c0,by omega,h⟩⟩
 constructor
 ·rintro(⟨j,hj,h,q⟩|h)
  ·exact .inl ⟨j,hj,h,(e j hj).1 q⟩
  ·exact .inr h
 ·rintro(⟨j,hj,h,q⟩|h)
  ·exact .inl ⟨j,hj,h,(e j hj).2 q⟩
  ·exact .inr h
end Go.V
namespace Go.V
theorem HH {ls:aa}(h:caOk ls=true):ls.length=4/\∀ n:Nat,n<4->(ax ls n 0).length<=8:=by
 unfold caOk at h;simp only[Bool.and_eq_true,decide_eq_true_eq]at h;refine⟨h.1,fun n hn=>?_⟩;have t:=cI.1 h.2.1 n (by omega) (by omega);unfold Js at t;simp only[Bool.and_eq_true,decide_eq_true_eq]at t;exact t.1
def ceC (ls:aa):Int:=if caOk ls=true then Ai ls ls.length else 0
theorem En {ls:aa}(h:caOk ls=true){n:Nat}(hn:n<4):0<=((ax ls n 0).length:Int)*clsSz n/\((ax ls n 0).length:Int)*clsSz n<=64:=by
 have l:=(HH h).2 n hn;have k:=td (k:=(n:Int));have m:((ax ls n 0).length:Int)*clsSz n<=8*8:=Int.mul_le_mul (by omega) k.2 k.1 (by omega);exact⟨Int.mul_nonneg (by omega) k.1,m⟩
theorem Aj {ls:aa}(h:caOk ls=true):∀ n:Nat,n<=4->0<=Ai ls n/\Ai ls n<=64*n
 |0,_=>⟨Int.le_refl _,by show(0:Int)<=_;omega⟩
 | n+1,hn=>by
   have:=Aj h n (by omega);have m:=En h (n:=n) (by omega);unfold Ai;omega
structure wu (ls:aa)(i t:Int):Prop where
 e:t=Ai ls i.toNat
theorem JB {ls:aa}:wu ls 0 0:=⟨rfl⟩
theorem Eo {ls:aa}{i t:Int}(h:wu ls i t)(c:caOk ls=true)(i0:0<=i)(i1:i<ls.length):wu ls (i+1) (bu .add .i64 t (bu .mul .i64 (ax ls i 0).length (clsSz i))):=by
 obtain⟨k,rfl⟩:=Int.eq_ofNat_of_zero_le i0;have l:=(HH c).1;have b:=Aj c k (by omega);have m:=En c (n:=k) (by omega);have e:=h.e;rw[show(k:Int).toNat=k by omega]at e;refine⟨?_⟩;rw[show bu .mul .i64 ((ax ls k 0).length:Int) (clsSz k)=((ax ls k 0).length:Int)*clsSz k from IntWalk.i64_in _ (by omega),bj (by omega),show((k:Int)+1).toNat=k+1 by omega,Ai,e]
theorem Bt {ls:aa}{i t:Int}(h:wu ls i t)(c:caOk ls=true)(i1:i<=ls.length)(i2:(ls.length:Int)<=i):t=ceC ls:=by
 rw[h.e];unfold ceC;rw[if_pos c,show i.toNat=ls.length by omega]
theorem JA {ls:aa}(c:caOk ls=false):ceC ls=0:=by unfold ceC;rw[c];rfl
theorem Bu {ls:aa}{i t:Int}(h:wu ls i t)(g:i=0\/caOk ls=true)(i1:i<=ls.length)(x:(ls.length:Int)<=i\/caOk ls=false):t=ceC ls:=by
 rcases g with rfl|g
 ·have z:t=0:=h.e;cases c:caOk ls with
  |false=>rw[z,JA c]
  | true=>
    have l:=(HH c).1;rcases x with x|x
    ·omega
    ·rw[c]at x;cases x
 ·rcases x with x|x
  ·exact Bt h g i1 x
  ·rw[g]at x;cases x
theorem Ep {ls:aa}:0<=ceC ls/\ceC ls<=256:=by
 unfold ceC;split
 ·rename_i c;have l:=(HH c).1;have b:=Aj c ls.length (by omega);omega
 ·omega
def Lb (cs:aa):Nat->Int
 |0=>0
 |n+1=>Lb cs n+ceC (ax cs n 0)
def acT (cs:aa):Int:=Lb cs cs.length
theorem DY {cs:aa}:∀ n:Nat,0<=Lb cs n/\Lb cs n<=256*n
 |0=>⟨Int.le_refl _,by show(0:Int)<=_;omega⟩
 | n+1=>by
   have:=DY (cs:=cs) n;have b:=Ep (ls:=ax cs n 0);unfold Lb;omega
structure I8 (cs:aa)(i t:Int):Prop where
 e:t=Lb cs i.toNat
theorem Jo {cs:aa}:I8 cs 0 0:=⟨rfl⟩
theorem DZ {cs:aa}{i t:Int}(h:I8 cs i t)(i0:0<=i)(i1:i<=1099511627776):I8 cs (i+1) (bu .add .i64 t (ceC (ax cs i 0))):=by
 obtain⟨k,rfl⟩:=Int.eq_ofNat_of_zero_le i0;have b:=DY (cs:=cs) k;have m:=Ep (ls:=ax cs k 0);have e:=h.e;rw[show(k:Int).toNat=k by omega]at e;refine⟨?_⟩;rw[bj (by omega),show((k:Int)+1).toNat=k+1 by omega,Lb,e]
theorem Bo {cs:aa}{i t:Int}(h:I8 cs i t)(i1:i<=cs.length)(i2:(cs.length:Int)<=i):t=acT cs:=by
 rw[h.e];unfold acT;rw[show i.toNat=cs.length by omega]
def ocT (os:aa):Int:=DO os os.length
structure Hc (os:aa)(i t:Int):Prop where
 e:t=DO os i.toNat
theorem Ki {os:aa}:Hc os 0 0:=⟨rfl⟩
theorem Ck {os:aa}{i t:Int}(O:Hb os)(l:os.length<=1073741824)(h:Hc os i t)(i0:0<=i)(i1:i<os.length)(g:0<=clsOf (af os i 2)):Hc os (i+1) (bu .add .i64 t (clsSz (clsOf (af os i 2)))):=by
 have b:=AK O (n:=i.toNat) (by omega);have k:=td (k:=clsOf (af os i 2));have e:=h.e;refine⟨?_⟩;rw[bj (by omega),ML i0 g,e]
theorem FP {os:aa}{i t:Int}(O:Hb os)(l:os.length<=1073741824)(h:Hc os i t)(i0:0<=i)(i1:i<os.length)(g:¬ 0<=clsOf (af os i 2)):Hc os (i+1) (bu .add .i64 t (af os i 2)):=by
 have b:=AK O (n:=i.toNat) (by omega);have k:=O.b i i0 i1;have e:=h.e;refine⟨?_⟩;rw[bj (by omega),PS i0 g,e]
theorem Cj {os:aa}{i t:Int}(h:Hc os i t)(i1:i<=os.length)(i2:(os.length:Int)<=i):t=ocT os:=by
 rw[h.e];unfold ocT;rw[show i.toNat=os.length by omega]
def poT (sp lg b x:aa):Int:=KA sp lg (ifL b x) (ifL b x).length
structure Jj (sp lg fl:aa)(i t:Int):Prop where
 e:t=KA sp lg fl i.toNat
theorem KC {sp lg fl:aa}:Jj sp lg fl 0 0:=⟨rfl⟩
theorem Gl {sp lg fl:aa}{i t:Int}(h:Jj sp lg fl i t)(i0:0<=i)(i1:i<=30):Jj sp lg fl (i+1) (bu .add .i64 t (clsSz (af sp (dnI sp lg (af fl i 0)) 1))):=by
 have b:=Gj (sp:=sp) (lg:=lg) (fl:=fl) (n:=i.toNat);have k:=td (k:=af sp (dnI sp lg (af fl i 0)) 1);have e:=h.e;refine⟨?_⟩;rw[bj (by omega),Qg i0,e]
theorem Ct {sp lg b x:aa}{i t:Int}(h:Jj sp lg (ifL b x) i t)(i1:i<=(ifL b x).length)(i2:((ifL b x).length:Int)<=i):t=poT sp lg b x:=by
 rw[h.e];unfold poT;rw[show i.toNat=(ifL b x).length by omega]
theorem KB {sp lg os cs b x qs:aa}{c:Int}(F:Ha sp lg)(h:hoI sp lg os cs b x qs c=true){j:Int}(j0:0<=j)(j1:j<(ifL b x).length):
 0<=dnI sp lg (af (ifL b x) j 0)/\dnI sp lg (af (ifL b x) j 0)<sp.length/\spI sp (bu .quo .i64 (af (ifL b x) j 0) 16)=dnI sp lg (af (ifL b x) j 0)/\
  -9223372036854775808<=af (ifL b x) j 0/\af (ifL b x) j 0<=9223372036854775807:=by
 have t:=HT h j0 j1;obtain⟨e,q,l,s⟩:=EB t;obtain⟨s1,s2,s3⟩:=oX.1 s;have r:=fh s1;rw[show bu .quo .i64 (af (ifL b x) j 0) 16=af (ifL b x) j 0/16 from jN (by omega) (by omega) (by omega),QV F t];exact⟨by omega,by omega,rfl,by omega,by omega⟩
theorem CR {k b i:Int}{o:aa}(h:pP k b i o)(i0:0<=i):(o.length:Int)<=i:=by
 rw[h.e];have:=nD (k:=k) (b:=b) i.toNat;omega
theorem CS {p k b i:Int}{o:aa}(h:pP k b i o)(g:i=0\/spOk p k b=true)(i1:i<=16)(x:16<=i\/spOk p k b=false):o=sclL p k b:=by
 cases c:spOk p k b with
 | true=>
   rcases x with x|x
   ·exact CQ h c i1 x
   ·rw[c]at x;cases x
 | false=>
   rcases g with rfl|g
   ·rw[KL c];exact h.e
   ·rw[c]at g;cases g
structure yr (sp:aa)(i t:Int):Prop where
 e:t=Hi sp i.toNat
theorem QQ {sp:aa}:yr sp 0 0:=⟨rfl⟩
theorem Na {sp:aa}{i t:Int}(h:yr sp i t)(i0:0<=i)(i1:i<=1099511627776):yr sp (i+1) (bu .add .i64 t ((sclL (af sp i 0) (af sp i 1) (af sp i 2)).length:Int)):=by
 have b:=AY (sp:=sp) i.toNat;have l:=um (p:=af sp i 0) (k:=af sp i 1) (b:=af sp i 2);have e:=h.e;refine⟨?_⟩;rw[bj (by omega),M9 i0,e]
structure yl (sp lg:aa)(i t:Int):Prop where
 e:t=Hi sp sp.length+H8 lg i.toNat
theorem O3 {sp lg:aa}{i t:Int}(h:yr sp i t)(i1:i<=sp.length)(i2:(sp.length:Int)<=i):yl sp lg 0 t:=⟨by
 rw[h.e,show i.toNat=sp.length by omega];show _=_+(0:Int);omega⟩
theorem Mc {sp lg:aa}{i t:Int}(h:yl sp lg i t)(F:Ha sp lg)(i0:0<=i)(i1:i<lg.length)(ns:sp.length<=1073741824)(nl:lg.length<=1073741824):yl sp lg (i+1) (bu .add .i64 t (af lg i 2)):=by
 have b:=AY (sp:=sp) sp.length;have c:=Fh F i.toNat (by omega);have d:=bE.1 (fH (F.l i.toNat (by omega))).1;rw[Int.toNat_of_nonneg i0]at d;have e:=h.e;refine⟨?_⟩;rw[bj (by omega),Mb i0,e];omega
theorem H9 {sp lg:aa}{i t:Int}(h:yl sp lg i t)(c:layOk sp lg=true)(i1:i<=lg.length)(i2:(lg.length:Int)<=i):t=lcI sp lg:=by
 rw[h.e];unfold lcI;rw[if_pos c,show i.toNat=lg.length by omega]
def ifZ (b:Bool)(x:Int):Int:=if b=true then x else 0
def zlI (es:aa):Int:=es.length
theorem fT {b:Bool}{x:Int}(h:b=true):ifZ b x=x:=by unfold ifZ;rw[if_pos h]
theorem fS {b:Bool}{x:Int}(h:b=false):ifZ b x=0:=by subst h;rfl
theorem Bn {a b c d e f g h a' b' c' d' e' f' g' h':Int}(q1:a=a')(q2:b=b')(q3:c=c')(q4:d=d')(q5:e=e')(q6:f=f')(q7:g=g')(q8:h=h'):
 [DV.agg [.i a,.i b,.i c,.i d,.i e,.i f,.i g,.i h]]=
  [DV.agg [.i a',.i b',.i c',.i d',.i e',.i f',.i g',.i h']]:=by
 rw[q1,q2,q3,q4,q5,q6,q7,q8]
end Go.V
namespace Go.V
def clL (cs es:aa)(a n:Int):aa:=Et cs es a n.toNat
structure I9 (cs es:aa)(a n:Int):Prop where
 b:0<=a/\a<=2000/\1<=n/\n<=1000
 f:∀ i:Int,0<=i->i<n->0<=peF es ((a+i)/16)/\peF es ((a+i)/16)<cs.length/\(ax cs (peF es ((a+i)/16)) 0).length=16
theorem wN {cs es os:aa}(O:RQ cs es os){j:Int}(j0:0<=j)(j1:j<os.length):I9 cs es (af os j 1) (af os j 2):=
 ⟨by have:=O.b.b j j0 j1;omega,O.f j j0 j1⟩
theorem N1 {cs es:aa}{a n i:Int}(C:I9 cs es a n)(i0:0<=i)(i1:i<n):bu .add .i64 a i=a+i/\bu .quo .i64 (bu .add .i64 a i) 16=(a+i)/16/\bu .rem .i64 (bu .add .i64 a i) 16=(a+i)%16/\
 0<=(a+i)%16/\(a+i)%16<16/\0<=a+i/\a+i<=3000:=by
 have b:=C.b;have e:bu .add .i64 a i=a+i:=bj (by omega);rw[e];exact⟨rfl,jN (by omega) (by omega) (by omega),wd (by omega),by omega,by omega,by omega,by omega⟩
theorem Li {cs es o:aa}{a i:Int}(h:DJ cs es a i o)(i0:0<=i):DJ cs es a (i+1) (o++[[.i (af (ax cs (peF es ((a+i)/16)) 0) ((a+i)%16) 0)]]):=N5 h i0
theorem HK {cs es o:aa}{a i:Int}(h:DJ cs es a i o)(i0:0<=i):(o.length:Int)=i:=by rw[h.e,wP];omega
theorem HJ {cs es o:aa}{a i n:Int}(h:DJ cs es a i o)(i0:i<=n)(i1:n<=i):o=clL cs es a n:=Lh h (.inl i0) i1
theorem Es {cs es:aa}{a n:Int}(hw:Rw [.sl [tI]] cs)(C:I9 cs es a n):Rw [tI] (clL cs es a n)/\(clL cs es a n).length<=1000:=by
 have b:=C.b;have l:(clL cs es a n).length<=1000:=by unfold clL;rw[wP];omega
 refine⟨⟨by unfold maxLen;omega,?_⟩,l⟩;have q:∀ m:Nat,(m:Int)<=n->∀ e∈Et cs es a m,bY [tI] e:=by
  intro m
  induction m with
  |zero=>intro _ e h;cases h
  | succ m ih=>
    intro hm e h;rw[Et,List.mem_append]at h;rcases h with h|h
    ·exact ih (by omega) e h
    ·simp only[List.mem_singleton]at h;subst h;have f:=C.f m (by omega) (by omega);have g:=tz (j:=0) (i:=(a+m)%16) (Rw.sub (fs:=[.sl [tI]]) (j:=0) hw (i:=peF es ((a+m)/16)) (by omega) rfl) rfl (by omega);exact⟨⟨rfl,g⟩,trivial⟩
 exact q _ (by omega)
theorem oE {a a':aa}{b b':Bool}(h:a=a')(h':b=b'):[DV.one (.s 1 a),DV.k b]=[DV.one (.s 1 a'),DV.k b']:=by rw[h,h']
theorem FR {os:aa}{id i:Int}(u:upto (bZ (jR os id)) i)(i0:0<=i)(i1:i<os.length)(h:af os i 0=id):oiI os id=i:=cO u i0 i1 (kj h)
theorem Is {os:aa}{id i:Int}(u:upto (bZ (jR os id)) i)(i1:(os.length:Int)<=i):oiI os id<0:=by
 have q:oiI os id= -1:=cP u (by omega);omega
theorem Kj {os:aa}{id:Int}(h:0<=oiI os id):oiI os id<os.length:=(dy (p:=jR os id) h).1
theorem An {os cs es:aa}{id:Int}(g:0<=oiI os id):clL cs es (af os (oiI os id) 1) (af os (oiI os id) 2)=ctsL true os cs es id/\true=ctsB true os id:=
 have q:=HN (b:=true) (os:=os) (cs:=cs) (es:=es) rfl g
 ⟨q.1.symm,q.2.symm⟩
theorem EA {b:Bool}{os cs es:aa}{id:Int}(hw:Rw [.sl [tI]] cs)(O:b=true->RQ cs es os):Rw [tI] (ctsL b os cs es id)/\(ctsL b os cs es id).length<=1000:=by
 unfold ctsL;split
 ·rename_i h;exact Es hw (wN (O h.1) h.2 (Kj h.2))
 ·exact⟨Rw.nil,Nat.zero_le _⟩
def AX (b:Bool)(os cs es ros:aa)(i:Int):Bool:=ctsB b os (af ros i 0)&&eqR (ctsL b os cs es (af ros i 0)) (ax ros i 1)
def rsI (b:Bool)(nx rn:Int)(os cs es ros:aa):Bool:=b&&(decide (nx=rn)&&(decide (os.length=ros.length)&&bU (AX b os cs es ros) ros.length))
section
variable {b : Bool} {nx rn : Int} {os cs es ros : aa}
theorem CI (h:b=false):rsI b nx rn os cs es ros=false:=by subst h;rfl
theorem CJ (h:nx≠rn):rsI b nx rn os cs es ros=false:=by unfold rsI;rw[decide_eq_false h];simp
theorem CK (h:(os.length:Int)≠ros.length):rsI b nx rn os cs es ros=false:=by unfold rsI;rw[decide_eq_false (p:=os.length=ros.length) (by omega)];simp
theorem xE {i:Int}(i0:0<=i)(i1:i<ros.length)(h:AX b os cs es ros i=false):rsI b nx rn os cs es ros=false:=by unfold rsI;rw[bB i0 i1 h];simp
theorem CL {i:Int}(h:b=true)(h2:nx=rn)(h3:(os.length:Int)=ros.length)(u:upto (AX b os cs es ros) i)(g:(ros.length:Int)<=i):rsI b nx rn os cs es ros=true:=by
 unfold rsI;rw[bg u g,h,decide_eq_true h2,decide_eq_true (p:=os.length=ros.length) (by omega)];rfl
theorem M6 {i:Int}(h:ctsB b os (af ros i 0)=false):AX b os cs es ros i=false:=by unfold AX;rw[h];rfl
theorem M7 {i:Int}(h:eqR (ctsL b os cs es (af ros i 0)) (ax ros i 1)=false):AX b os cs es ros i=false:=by unfold AX;rw[h,Bool.and_false]
theorem QB {i:Int}(h1:ctsB b os (af ros i 0)=true)(h2:eqR (ctsL b os cs es (af ros i 0)) (ax ros i 1)=true):AX b os cs es ros i=true:=by unfold AX;rw[h1,h2];rfl
def Tl (os cs es ros:aa)(i:Int)(k:Nat):Bool:=eqR (clL cs es (af os k 1) (af os k 2)) (ax ros i 1)
structure Jl (os cs es ros:aa)(i k:Int)(ok:Bool):Prop where
 e:ok=Dr (Tl os cs es ros i) os (af ros i 0) k.toNat
theorem QC {i:Int}:Jl os cs es ros i 0 false:=⟨rfl⟩
theorem IG {i k:Int}{ok:Bool}(_:Jl os cs es ros i k ok)(k0:0<=k)(g:af os k 0=af ros i 0):Jl os cs es ros i (k+1) (eqR (clL cs es (af os k 1) (af os k 2)) (ax ros i 1)):=⟨by
 rw[M4 k0 g];unfold Tl;rw[Int.toNat_of_nonneg k0]⟩
theorem IH {i k:Int}{ok:Bool}(h:Jl os cs es ros i k ok)(k0:0<=k)(g:af os k 0≠af ros i 0):Jl os cs es ros i (k+1) ok:=⟨by
 rw[M5 k0 g];exact h.e⟩
theorem CM {sp lg cc:aa}{i k:Int}{ok:Bool}(o:objOk sp lg os cc nx=true)(h:Jl os cs es ros i k ok)(k0:k<=os.length)(k1:(os.length:Int)<=k):ok=AX true os cs es ros i:=by
 rw[h.e,show k.toNat=os.length by omega,M3 o];unfold AX ctsB;rw[Bool.true_and];cases c:oiB os (af ros i 0)with
 |false=>rfl
 | true=>
   have g:0<=oiI os (af ros i 0):=of_decide_eq_true c;rw[Bool.true_and,Bool.true_and];unfold Tl;rw[Int.toNat_of_nonneg g,(An g).1]
end
end Go.V
namespace Go.V
def Mr (f:Int->Bool):aa:=(List.range 16).map fun(c:Nat)=>[.v (.bool (f c))]
theorem xo {f:Int->Bool}:(Mr f).length=16:=by simp[Mr]
theorem Px {f:Int->Bool}{o:aa}(h:uJ f o):o=Mr f:=by
 refine List.ext_getElem (by rw[h.l,xo]) fun n h1 h2=>?_
 have c:=h.w.2 _ (List.getElem_mem h1);have v:=h.v n (by omega) (by rw[h.l]at h1;omega);unfold jS at v;rw[Int.toNat_natCast,List.getD_eq_getElem?_getD (l:=o),List.getElem?_eq_getElem h1,Option.getD_some]at v;simp only[Mr,List.getElem_map,List.getElem_range];generalize o[n]=r at c v
 match r,c,v with
 | [.v (.bool b)],_,v=>
   have v:b=f n:=v;rw[v]
 |[.v (.int _ _)],c,_=>exact c.1.elim
 |[.v (.string _)],c,_=>exact c.1.elim
 |_::_::_,c,_=>exact c.2.elim
theorem xp {f:Int->Bool}:uJ f (Mr f):=by
 refine⟨⟨by rw[xo];unfold maxLen;omega,fun e he=>?_⟩,xo,fun c c0 c1=>?_⟩
 ·obtain⟨n,_,rfl⟩:=List.mem_map.1 he;exact⟨trivial,trivial⟩
 ·obtain⟨n,rfl⟩:=Int.eq_ofNat_of_zero_le c0;unfold jS Mr;rw[Int.toNat_natCast,List.getD_eq_getElem?_getD (l:=List.map _ _),List.getElem?_map,List.getElem?_range (by omega)];rfl
def txL (cs es:aa)(p:Int):aa:=ax cs (peF es p) 0
def mbL (es sp lg:aa)(p:Int):aa:=Mr (Fw es sp lg p lg.length)
def y9 (cs es sp lg:aa)(p k:Int):Bool:=decide (af (ax cs (peF es p) 0) k 0=0)||Fw es sp lg p lg.length k
def pcB (ok:Bool)(cs es sp lg:aa)(p:Int):Bool:=ok&&(decide (peM es p≠0)&&bU (y9 cs es sp lg p) 16)
theorem Ks {ok:Bool}{cs es sp lg:aa}{p:Int}(h:ok=false):pcB ok cs es sp lg p=false:=by unfold pcB;rw[h];rfl
theorem Kt {ok:Bool}{cs es sp lg:aa}{p:Int}(h:peM es p=0):pcB ok cs es sp lg p=false:=by unfold pcB;rw[decide_eq_false (by omega)];simp
theorem AQ {ok:Bool}{cs es sp lg:aa}{p i:Int}(i0:0<=i)(i1:i<16)(h:y9 cs es sp lg p i=false):pcB ok cs es sp lg p=false:=by
 unfold pcB;rw[bB (n:=16) i0 (by omega) h];simp
theorem Co {ok:Bool}{cs es sp lg:aa}{p i:Int}(h:ok=true)(m:peM es p≠0)(u:upto (y9 cs es sp lg p) i)(i1:16<=i):pcB ok cs es sp lg p=true:=by
 unfold pcB;rw[h,decide_eq_true m,bg (n:=16) u (by omega)];rfl
theorem Kr {cs es sp lg:aa}{p k:Int}(h:af (ax cs (peF es p) 0) k 0=0):y9 cs es sp lg p k=true:=by unfold y9;rw[decide_eq_true h];rfl
theorem P7 {cs es sp lg:aa}{p k:Int}(k0:0<=k)(k1:k<16)(h:jS (mbL es sp lg p) k 0=true):y9 cs es sp lg p k=true:=by
 unfold mbL at h;rw[xp.v k k0 k1]at h;unfold y9;rw[h];simp
theorem P6 {cs es sp lg:aa}{p k:Int}(k0:0<=k)(k1:k<16)(z:af (ax cs (peF es p) 0) k 0≠0)(h:jS (mbL es sp lg p) k 0=false):y9 cs es sp lg p k=false:=by
 unfold mbL at h;rw[xp.v k k0 k1]at h;unfold y9;rw[h,decide_eq_false z];rfl
section
variable {cs es fr sp lg : aa} {p k : Int} (hl : layOk sp lg = true) (hp : pgI es fr sp lg = true) (hm : peM es p ≠ 0) (k0 : 0 <= k) (k1 : k < 16)
include hl hp hm k0 k1
theorem Ga (h:Kk es sp lg p k):y9 cs es sp lg p k=true:=by
 unfold y9;rw[(Fx hl k0 k1).2 ((Kq hl hp hm k0 k1).2 h)];simp
theorem F9 (z:af (ax cs (peF es p) 0) k 0≠0)(h:¬ Kk es sp lg p k):y9 cs es sp lg p k=false:=by
 have q:Fw es sp lg p lg.length k=false:=by
  cases q:Fw es sp lg p lg.length k with
  |false=>rfl
  |true=>exact absurd ((Kq hl hp hm k0 k1).1 ((Fx hl k0 k1).1 q)) h
 unfold y9;rw[q,decide_eq_false z];rfl
end
theorem SV {es sp lg:aa}{p k:Int}(h:0<=spI sp p)(g:hsB (ubB es sp (spI sp p)) (k/clsSz (af sp (spI sp p) 1))=true):Kk es sp lg p k:=.inl ⟨h,g⟩
theorem SX {es sp lg:aa}{p k:Int}(h:spI sp p<0)(g:dnK sp lg (p*16+k)=3):Kk es sp lg p k:=.inr ⟨h,g⟩
theorem SO {es sp lg:aa}{p k:Int}(h:0<=spI sp p)(g:hsB (ubB es sp (spI sp p)) (k/clsSz (af sp (spI sp p) 1))=false):¬ Kk es sp lg p k:=by
 rintro(⟨_,q⟩|⟨q,_⟩)
 ·rw[g]at q;cases q
 ·omega
theorem SP {es sp lg:aa}{p k:Int}(h:spI sp p<0)(g:dnK sp lg (p*16+k)≠3):¬ Kk es sp lg p k:=by
 rintro(⟨q,_⟩|⟨_,q⟩)
 ·omega
 ·exact g q
structure Jg (es sp:aa)(p i:Int)(o:aa):Prop where
 m:uJ (Ic es sp p i.toNat) o
structure NA (es sp:aa)(p i j:Int)(o:aa):Prop where
 m:uJ (Mp (Ic es sp p i.toNat) (sclL (af sp i 0) (af sp i 1) (af sp i 2)) j) o
structure NB (es sp lg:aa)(p i:Int)(o:aa):Prop where
 m:uJ (Fw es sp lg p i.toNat) o
structure Jf (es sp lg:aa)(p i j:Int)(o:aa):Prop where
 m:uJ (Hh (Fw es sp lg p i.toNat) (fun c=>lhB (af lg i 0) (af lg i 1) (af lg i 2) (p*16+c)) j) o
theorem PH {es sp:aa}{p:Int}{o:aa}(e:o=List.replicate 16 [.v (.bool false)]):Jg es sp p 0 o:=by
 subst e;refine⟨⟨⟨by simp[maxLen],fun e he=>?_⟩,by simp,fun c c0 c1=>?_⟩⟩
 ·rw[List.eq_of_mem_replicate he];exact⟨trivial,trivial⟩
 ·unfold jS;rw[List.getD_eq_getElem?_getD (l:=List.replicate _ _),List.getElem?_replicate,if_pos (by omega)];rfl
theorem MB {es sp o:aa}{p i:Int}(h:Jg es sp p i o)(i0:0<=i)(g:hasB (fpg es p) (af sp i 0)=false):Jg es sp p (i+1) o:=⟨m8 h.m fun c _ _=>by
 rw[show(i+1).toNat=i.toNat+1 by omega,Ic,Int.toNat_of_nonneg i0,g];simp⟩
theorem Pp {es sp o:aa}{p i:Int}(h:Jg es sp p i o):NA es sp p i 0 o:=⟨Pv h.m⟩
theorem Mo {es sp o:aa}{p i j:Int}(h:NA es sp p i j o)(j0:0<=j)(j1:j<(sclL (af sp i 0) (af sp i 1) (af sp i 2)).length):
 (0<=af (sclL (af sp i 0) (af sp i 1) (af sp i 2)) j 0/\af (sclL (af sp i 0) (af sp i 1) (af sp i 2)) j 0<16)/\NA es sp p i (j+1) (o.set (af (sclL (af sp i 0) (af sp i 1) (af sp i 2)) j 0).toNat [.v (.bool true)]):=by
 have b:0<=af (sclL (af sp i 0) (af sp i 1) (af sp i 2)) j 0/\af (sclL (af sp i 0) (af sp i 1) (af sp i 2)) j 0<16:=by
  have q:hasB (sclL (af sp i 0) (af sp i 1) (af sp i 2)) (af (sclL (af sp i 0) (af sp i 1) (af sp i 2)) j 0)=true:=jJ.2 ⟨j.toNat,by omega,by rw[Int.toNat_of_nonneg j0]⟩;generalize af (sclL (af sp i 0) (af sp i 1) (af sp i 2)) j 0=x at q ⊢;unfold sclL at q;split at q
  ·have:=(tR 16).1 q;omega
  ·obtain⟨k,hk,_⟩:=jJ.1 q;simp at hk
 exact⟨b,⟨Mq h.m j0 j1 b.1 b.2⟩⟩
theorem Ie {es sp o:aa}{p i j:Int}(h:NA es sp p i j o)(i0:0<=i)(j1:(sclL (af sp i 0) (af sp i 1) (af sp i 2)).length<=j)(g:hasB (fpg es p) (af sp i 0)=true):Jg es sp p (i+1) o:=⟨m8 h.m fun c _ _=>by
 rw[show(i+1).toNat=i.toNat+1 by omega,Ic,Int.toNat_of_nonneg i0,g,Mp,List.take_of_length_le (by omega)];simp⟩
theorem Pu {es sp lg o:aa}{p i:Int}(h:Jg es sp p i o)(i1:i<=sp.length)(i2:(sp.length:Int)<=i):NB es sp lg p 0 o:=⟨m8 h.m fun c _ _=>by
 rw[show i.toNat=sp.length by omega];rfl⟩
theorem Pq {es sp lg o:aa}{p i:Int}(h:NB es sp lg p i o):Jf es sp lg p i 0 o:=⟨Pw h.m⟩
theorem Pr {es sp lg o:aa}{p i j:Int}(h:Jf es sp lg p i j o)(j0:0<=j)(j1:j<16)(g:jS o j 0=true):Jf es sp lg p i (j+1) (o.set j.toNat [.v (.bool true)]):=⟨Cc h.m j0 j1 (by
 rw[FC h.m j0 j1]at g;rw[g];rfl)⟩
theorem Ps {es sp lg o:aa}{p i j:Int}(h:Jf es sp lg p i j o)(j0:0<=j)(j1:j<16)(g:jS o j 0=false){b:Bool}(e:b=lhB (af lg i 0) (af lg i 1) (af lg i 2) (p*16+j)):Jf es sp lg p i (j+1) (o.set j.toNat [.v (.bool b)]):=⟨Cc h.m j0 j1 (by
 rw[FC h.m j0 j1]at g;rw[g,e];rfl)⟩
theorem Ih {es sp lg o:aa}{p i j:Int}(h:Jf es sp lg p i j o)(i0:0<=i)(j1:16<=j):NB es sp lg p (i+1) o:=⟨m8 (Ik h.m j1) fun c _ _=>by
 rw[show(i+1).toNat=i.toNat+1 by omega,Fw,Int.toNat_of_nonneg i0]⟩
theorem Ij {es sp lg o:aa}{p i:Int}(h:NB es sp lg p i o)(i1:i<=lg.length)(i2:(lg.length:Int)<=i):o=mbL es sp lg p:=by
 rw[Px h.m,show i.toNat=lg.length by omega];rfl
theorem Kp {l:aa}{i:Int}(h:Rw [tB] l)(h0:0<=i)(h1:i<l.length):∃ rec o,bT (L.s 1 l) [(i.toNat,0)]=some (rec,o)/\o+[L.v (Value.bool false)].length<=rec.length/\List.take [L.v (Value.bool false)].length (List.drop o rec)=km ai (L.s 1 l) [(i.toNat,0)] 0 [L.v (Value.bool false)]:=
 zh (z0:=[.v (.bool false)]) (z:=[.v (.bool false)]) h.wf (by omega) rfl (by decide)
theorem F8 {l:aa}{i:Int}(h0:0<=i):MO (.s 1 l) [(i.toNat,0)]=jS l i 0:=by
 rw[F7];unfold jS;rw[Int.toNat_natCast]
theorem A3 {o:aa}{n:Int}{b:Bool}(h:Rw [tB] o)(h0:0<=n)(h1:n<o.length):Dy (.s 1 o) [(n.toNat,0)] [.v (.bool b)]=o.set n.toNat [.v (.bool b)]:=rS (by rw[h.eta h0 h1];rfl)
theorem GP {o:aa}{n:Int}(h:Rw [tB] o)(h0:0<=n)(h1:n<o.length):∃ rec o',bT (.s 1 o) [(n.toNat,0)]=some (rec,o')/\o'+1<=rec.length:=kW (by omega) (by rw[h.eta h0 h1];exact Nat.le_refl _)
theorem xG {k b:Int}:∀ n:Nat,n<=16->Rw [tI] (rq k b n)
 |0,_=>Rw.nil
 | n+1,h=>by
   have l:=nD (k:=k) (b:=b) n;unfold rq;split
   ·exact Rw.append (xG n (by omega)) (QD (by omega)) (by unfold maxLen;simp only[List.length_cons,List.length_nil];omega)
   ·exact xG n (by omega)
theorem IK {p k b:Int}:Rw [tI] (sclL p k b):=by unfold sclL;split;exact xG 16 (Nat.le_refl _);exact Rw.nil
theorem Ku {es:aa}{p:Int}(h:¬ peM es p=0):0<=p/\p<es.length:=by
 by_cases c:0<=p/\p<es.length
 ·exact c
 ·exact absurd (za c).1 h
theorem Lk {sp lg:aa}{p:Int}(hl:layOk sp lg=true)(h:0<=spI sp p):1<=clsSz (af sp (spI sp p) 1)/\clsSz (af sp (spI sp p) 1)<=8:=by
 have b:=GL h;generalize spI sp p=i at*;obtain⟨i,rfl⟩:=Int.eq_ofNat_of_zero_le h;have c:=fD (fh ((Dj hl).s i (by omega))).2.2.1;exact⟨c.1,c.2.1⟩
theorem N8 {sp lg:aa}{a:Int}(h:layOk sp lg=true):dzK sp lg a=dnK sp lg a:=by unfold dzK;rw[if_pos h]
theorem Mm {es sp lg:aa}{p:Int}:Rw [tB] (mbL es sp lg p)/\(mbL es sp lg p).length=16:=⟨xp.w,xp.l⟩
end Go.V
namespace Go.V
section
variable {r0 r1 r2 r3 r4 r5 r6 r7 r8 r9 r10 r11 r12 : aa}
theorem N6 {n:Nat}(h:ao [r0,r1,r2,r3,r4,r5,r6,r7,r8,r9,r10,r11,r12]<=n):ak r0<=n/\ak r1<=n/\ak r2<=n/\ak r3<=n/\ak r4<=n/\ak r5<=n/\ak r6<=n/\ak r7<=n/\ak r8<=n/\ak r9<=n/\ak r10<=n/\ak r11<=n/\ak r12<=n:=⟨aj h (by simp),aj h (by simp),aj h (by simp),aj h (by simp),aj h (by simp),aj h (by simp),aj h (by simp),aj h (by simp),aj h (by simp),aj h (by simp),aj h (by simp),aj h (by simp),aj h (by simp)⟩
end
end Go.V