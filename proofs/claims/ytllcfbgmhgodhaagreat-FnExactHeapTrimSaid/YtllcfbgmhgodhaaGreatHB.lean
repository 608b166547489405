/- Plain facts. -/
import Derived.Test.YtllcfbgmhgodhaaGreatW2
import Derived.Test.YtllcfbgmhgodhaaGreatW1
set_option linter.all false
namespace Go.V
def zZ (sp:aa)(i:Int):Nat->List Int
 |0=>[]
 |n+1=>zZ sp i n++(if hsB (ag sp i 2) n then[aaI (ag sp i 0) (ag sp i 1) (ag sp i 2) n]else[])
def yM (sp:aa):Nat->List Int
 |0=>[]
 |n+1=>yM sp n++zZ sp n (slN (ag sp n 1)).toNat
def BA (lg:aa):Nat->List Int
 |0=>[]
 |n+1=>BA lg n++[ag lg n 0*16]
def KP (sp lg:aa):List Int:=yM sp sp.length++BA lg lg.length
def iaL (sp lg:aa):aa:=if layOk sp lg then srtL (eS (KP sp lg))else[]
theorem y9 {a b:Int}(h: -9223372036854775808<=a*b/\a*b<=9223372036854775807):bF .mul .i64 a b=a*b:=IntWalk.i64_in _ h
theorem A9 {l:aa}:(srtL l).length=l.length:=by unfold srtL;rw[bR,List.length_mergeSort];unfold kM;rw[List.length_map]
def Mc (l:List Int):Prop:=∀ x∈l,-1<=x/\x<=1000
theorem C0 {a b:List Int}(h:Mc a)(g:Mc b):Mc (a++b):=fun x hx=>by
 rcases List.mem_append.1 hx with q|q
 ·exact h x q
 ·exact g x q
theorem Kd {x:Int}(h: -1<=x/\x<=1000):Mc [x]:=fun y hy=>by simp at hy;rw[hy];exact h
theorem Tz {p k b s:Int}: -1<=aaI p k b s/\aaI p k b s<=1000:=by
 unfold aaI;by_cases h:L9 p k b s=true
 ·rw[if_pos h];unfold L9 at h;simp only[Bool.and_eq_true]at h;have t:=hZ h.1;have c:=gR t.2.2.1;have s1:=bE.1 h.2;have m0:0<=s*clsSz k:=Int.mul_nonneg (by omega) (by omega);have m1:s*clsSz k<=slN k*clsSz k:=Int.mul_le_mul_of_nonneg_right (by omega) (by omega);omega
 ·rw[if_neg h];omega
theorem yL {sp:aa}{i k:Int}(h:0<=k):zZ sp i (k+1).toNat=zZ sp i k.toNat++(if hsB (ag sp i 2) k then[aaI (ag sp i 0) (ag sp i 1) (ag sp i 2) k]else[]):=by
 rw[show(k+1).toNat=k.toNat+1 from by omega,zZ,Int.toNat_of_nonneg h]
theorem Gb {sp:aa}{i:Int}(h:0<=i):yM sp (i+1).toNat=yM sp i.toNat++zZ sp i (slN (ag sp i 1)).toNat:=by
 rw[show(i+1).toNat=i.toNat+1 from by omega,yM,Int.toNat_of_nonneg h]
theorem B0 {lg:aa}{i:Int}(h:0<=i):BA lg (i+1).toNat=BA lg i.toNat++[ag lg i 0*16]:=by
 rw[show(i+1).toNat=i.toNat+1 from by omega,BA,Int.toNat_of_nonneg h]
structure Ox (sp:aa)(i:Int)(o:aa):Prop where
 e:o=eS (yM sp i.toNat)
 b:Mc (yM sp i.toNat)
 l:(yM sp i.toNat).length<=16*i.toNat
structure Ij (sp:aa)(i k:Int)(o:aa):Prop where
 e:o=eS (yM sp i.toNat++zZ sp i k.toNat)
 b:Mc (yM sp i.toNat++zZ sp i k.toNat)
 l:(yM sp i.toNat).length<=16*i.toNat
 k:(zZ sp i k.toNat).length<=k.toNat
structure J7 (sp lg:aa)(j:Int)(o:aa):Prop where
 e:o=eS (yM sp sp.length++BA lg j.toNat)
 b:Mc (yM sp sp.length++BA lg j.toNat)
 l:(yM sp sp.length++BA lg j.toNat).length<=16*sp.length+j.toNat
theorem Uc {sp:aa}:Ox sp 0 []:=⟨rfl,(fun x hx=>by cases hx),Nat.zero_le _⟩
theorem Ue {sp o:aa}{i:Int}(h:Ox sp i o):Ij sp i 0 o:=
 ⟨by rw[h.e];simp[zZ],by simpa[zZ]using h.b,h.l,Nat.zero_le _⟩
theorem MX {sp o:aa}{i k:Int}(h:Ij sp i k o):o.length<=16*i.toNat+k.toNat:=by
 have l:=h.l;have m:=h.k;rw[h.e,bR,List.length_append];omega
theorem MY {sp o:aa}{i k:Int}(h:Ij sp i k o)(k0:0<=k)(hh:hsB (ag sp i 2) k=true):Ij sp i (k+1) (o++[[.i (aaI (ag sp i 0) (ag sp i 1) (ag sp i 2) k)]]):=by
 have m:=h.k;have e:=h.e;refine⟨?_,?_,h.l,?_⟩
 ·rw[yL k0,if_pos hh, <-List.append_assoc,eH, <-e];rfl
 ·rw[yL k0,if_pos hh, <-List.append_assoc];exact C0 h.b (Kd Tz)
 ·rw[yL k0,if_pos hh,List.length_append,List.length_cons,List.length_nil];omega
theorem P2 {sp o:aa}{i k:Int}(h:Ij sp i k o)(k0:0<=k)(hh:hsB (ag sp i 2) k=false):Ij sp i (k+1) o:=by
 have m:=h.k;have e:=h.e;have u:zZ sp i (k+1).toNat=zZ sp i k.toNat:=by rw[yL k0,hh];simp
 refine⟨?_,?_,h.l,?_⟩
 ·rw[u];exact e
 ·rw[u];exact h.b
 ·rw[u];omega
theorem Vd {sp lg:aa}{i:Int}(hl:layOk sp lg=true)(h0:0<=i)(h1:i<sp.length):0<=slN (ag sp i 1)/\slN (ag sp i 1)<=16:=by
 have t:=hZ ((Dw hl).1 i h0 h1);have c:=gR t.2.2.1;omega
theorem MW {sp o:aa}{i k:Int}(h:Ij sp i k o)(i0:0<=i)(k1:k<=slN (ag sp i 1))(k2:slN (ag sp i 1)<=k)(hs:0<=slN (ag sp i 1)/\slN (ag sp i 1)<=16):Ox sp (i+1) o:=by
 have ek:k=slN (ag sp i 1):=by omega
 have e:=h.e;have b:=h.b;have l:=h.l;have m:=h.k;rw[ek, <-Gb i0]at e b;rw[ek]at m;refine⟨e,b,?_⟩;rw[Gb i0,List.length_append];omega
theorem Uf {sp lg o:aa}{i:Int}(h:Ox sp i o)(h1:i<=sp.length)(h2:(sp.length:Int)<=i):J7 sp lg 0 o:=by
 have ei:i.toNat=sp.length:=by omega
 have e:=h.e;have b:=h.b;have l:=h.l;rw[ei]at e b l;exact⟨by rw[e];simp[BA],by simpa[BA]using b,by simpa[BA]using l⟩
theorem Ge {sp lg o:aa}{j:Int}(h:J7 sp lg j o):o.length<=16*sp.length+j.toNat:=by
 have l:=h.l;rw[h.e,bR];exact l
theorem Un {sp lg:aa}{j:Int}(hl:layOk sp lg=true)(h0:0<=j)(h1:j<lg.length):0<=ag lg j 0/\ag lg j 0<=32:=by
 have t:=fM ((Dw hl).2.1 j h0 h1);have b:=gf t.1;omega
theorem P4 {sp lg o:aa}{j:Int}(h:J7 sp lg j o)(j0:0<=j)(hb:0<=ag lg j 0/\ag lg j 0<=32):J7 sp lg (j+1) (o++[[.i (ag lg j 0*16)]]):=by
 have e:=h.e;have l:=h.l;refine⟨?_,?_,?_⟩
 ·rw[B0 j0, <-List.append_assoc,eH, <-e];rfl
 ·rw[B0 j0, <-List.append_assoc];exact C0 h.b (Kd (by omega))
 ·rw[B0 j0, <-List.append_assoc,List.length_append,List.length_cons,List.length_nil];omega
theorem P3 {sp lg o:aa}{j:Int}(h:J7 sp lg j o)(h1:sp.length<=1073741824)(h2:j<=1073741824):Rw [tI] o/\o.length<=70368744177664:=by
 have l:=Ge h;refine⟨?_,by omega⟩;have e:=h.e;have l2:=h.l;rw[e];exact pT (fun x hx=>by have:=h.b x hx;omega) (by omega)
theorem MZ {sp lg o:aa}{j:Int}(h:J7 sp lg j o)(j1:j<=lg.length)(j2:(lg.length:Int)<=j)(hl:layOk sp lg=true):srtL o=iaL sp lg:=by
 have ej:j.toNat=lg.length:=by omega
 have e:=h.e;rw[ej]at e;unfold iaL KP;rw[if_pos hl, <-e]
theorem Ud {sp lg:aa}(hl:layOk sp lg=false):([]:aa)=iaL sp lg:=by unfold iaL;rw[hl];rfl
end Go.V
namespace Go.V
theorem tx :∀ {a b:List Int},a.Pairwise (· < ·)->b.Pairwise (· < ·)->(∀ x,x∈a↔x∈b)->a=b
 |[],[],_,_,_=>rfl
 |[],y::b,_,_,h=>by have:=(h y).2 (by simp);simp at this
 |x::a,[],_,_,h=>by have:=(h x).1 (by simp);simp at this
 | x::a,y::b,ha,hb,h=>by
   rw[List.pairwise_cons]at ha hb;have e:x=y:=by
    rcases List.mem_cons.1 ((h x).1 (by simp))with q|q
    ·exact q
    ·rcases List.mem_cons.1 ((h y).2 (by simp))with r|r
     ·exact r.symm
     ·have:=hb.1 x q;have:=ha.1 y r;omega
   subst e;rw[tx ha.2 hb.2 (fun z=>?_)]
   constructor
   ·intro m;rcases List.mem_cons.1 ((h z).1 (by simp[m]))with q|q
    ·have:=ha.1 z m;omega
    ·exact q
   ·intro m;rcases List.mem_cons.1 ((h z).2 (by simp[m]))with q|q
    ·have:=hb.1 z m;omega
    ·exact q
theorem jD {sp:aa}{x:Int}:∀ {n:Nat},x∈iV sp n↔∃ i:Nat,i<n/\ag sp i 0=x
 |0=>by simp[iV]
 | n+1=>by
   rw[iV,List.mem_append,jD,List.mem_singleton]
   constructor
   ·rintro(⟨i,h,e⟩|rfl)
    ·exact⟨i,by omega,e⟩
    ·exact⟨n,by omega,rfl⟩
   ·rintro⟨i,h,e⟩;by_cases c:i=n
    ·subst c;exact .inr e.symm
    ·exact .inl ⟨i,by omega,e⟩
theorem y7 {p x:Int}:∀ {n:Nat},x∈lJ p n↔p<=x/\x<p+n
 |0=>⟨(fun h=>by cases h),(fun h=>absurd h (by omega))⟩
 | n+1=>by
   rw[lJ,List.mem_append,y7,List.mem_singleton];omega
theorem iq {lg:aa}{x:Int}:∀ {n:Nat},x∈iU lg n↔∃ j:Nat,j<n/\ag lg j 0<=x/\x<ag lg j 0+(ag lg j 1).toNat
 |0=>by simp[iU]
 | n+1=>by
   rw[iU,List.mem_append,iq,y7]
   constructor
   ·rintro(⟨i,h,e⟩|h)
    ·exact⟨i,by omega,e⟩
    ·exact⟨n,by omega,h⟩
   ·rintro⟨i,h,e⟩;by_cases c:i=n
    ·subst c;exact .inr e
    ·exact .inl ⟨i,by omega,e⟩
theorem HL {sp:aa}:∀ {n:Nat},(iV sp n).Nodup->∀ i i':Nat,i<i'->i'<n->ag sp i 0≠ag sp i' 0
 |0,_,i,i',_,h=>by omega
 | n+1,hn,i,i',h1,h2=>by
   rw[iV,List.nodup_append]at hn;by_cases c:i'=n
   ·subst c;exact hn.2.2 _ (jD.2 ⟨i,h1,rfl⟩) _ (by simp)
   ·exact HL hn.1 i i' h1 (by omega)
theorem GB {lg:aa}:∀ {n:Nat},(iU lg n).Nodup->∀ (j j':Nat) (x:Int),j<j'->j'<n->ag lg j 0<=x->x<ag lg j 0+(ag lg j 1).toNat->ag lg j' 0<=x->x<ag lg j' 0+(ag lg j' 1).toNat->False
 |0,_,j,j',x,_,h,_,_,_,_=>by omega
 | n+1,hn,j,j',x,h1,h2,a,b,c,d=>by
   rw[iU,List.nodup_append]at hn;by_cases e:j'=n
   ·subst e;exact hn.2.2 x (iq.2 ⟨j,h1,a,b⟩) x (y7.2 ⟨c,d⟩) rfl
   ·exact GB hn.1 j j' x h1 (by omega) a b c d
structure LY (sp lg:aa):Prop where
 s:∀ i:Nat,i<sp.length->spOk (ag sp i 0) (ag sp i 1) (ag sp i 2)=true
 l:∀ j:Nat,j<lg.length->lgOk (ag lg j 0) (ag lg j 1) (ag lg j 2)=true
 ss:∀ i i':Nat,i<sp.length->i'<sp.length->ag sp i 0=ag sp i' 0->i=i'
 sl:∀ i j:Nat,i<sp.length->j<lg.length->ag lg j 0<=ag sp i 0->ag sp i 0<ag lg j 0+ag lg j 1->False
 ll:∀ (j j':Nat) (x:Int),j<lg.length->j'<lg.length->ag lg j 0<=x->x<ag lg j 0+ag lg j 1->ag lg j' 0<=x->x<ag lg j' 0+ag lg j' 1->j=j'
theorem Jc {sp lg:aa}(h:layOk sp lg=true):LY sp lg:=by
 obtain⟨h1,h2,h3⟩:=Dw h;unfold qL at h3;rw[List.nodup_append]at h3;have n0:∀ j:Nat,j<lg.length->((ag lg j 1).toNat:Int)=ag lg j 1:=fun j hj=>by
  have t:=fM (h2 j (by omega) (by omega));have b:=gf t.1;omega
 refine⟨fun i hi=>h1 i (by omega) (by omega),fun j hj=>h2 j (by omega) (by omega),fun i i' a b e=>?_,fun i j a b c d=>?_,fun j j' x a b c d e f=>?_⟩
 ·rcases Nat.lt_trichotomy i i' with q|q|q
  ·exact absurd e (HL h3.1 i i' q b)
  ·exact q
  ·exact absurd e.symm (HL h3.1 i' i q a)
 ·exact h3.2.2 _ (jD.2 ⟨i,a,rfl⟩) _ (iq.2 ⟨j,b,c,by rw[n0 j b];exact d⟩) rfl
 ·rcases Nat.lt_trichotomy j j' with q|q|q
  ·exact(GB h3.2.1 j j' x q b c (by rw[n0 j a];exact d) e (by rw[n0 j' b];exact f)).elim
  ·exact q
  ·exact(GB h3.2.1 j' j x q a e (by rw[n0 j' b];exact f) c (by rw[n0 j a];exact d)).elim
theorem kq {p k b s:Int}(h:spOk p k b=true)(h0:0<=s)(h1:s<slN k):aaI p k b s=p*16+s*clsSz k/\0<=s*clsSz k/\s*clsSz k+clsSz k<=16/\1<=clsSz k:=by
 have t:=hZ h;have c:=gR t.2.2.1;have a:L9 p k b s=true:=by unfold L9;rw[h,bE.2 ⟨h0,by omega⟩];rfl
 have m0:0<=s*clsSz k:=Int.mul_nonneg h0 (by omega);have m1:(s+1)*clsSz k<=slN k*clsSz k:=Int.mul_le_mul_of_nonneg_right (by omega) (by omega);rw[Int.add_mul]at m1;unfold aaI;rw[if_pos a];exact⟨rfl,m0,by omega,by omega⟩
theorem sZ {sp:aa}{i x:Int}:∀ {n:Nat},x∈zZ sp i n↔∃ k:Nat,k<n/\hsB (ag sp i 2) k=true/\x=aaI (ag sp i 0) (ag sp i 1) (ag sp i 2) k
 |0=>by simp[zZ]
 | n+1=>by
   rw[zZ,List.mem_append,sZ]
   constructor
   ·rintro(⟨k,h,e⟩|h)
    ·exact⟨k,by omega,e⟩
    ·by_cases c:hsB (ag sp i 2) n=true
     ·rw[if_pos c,List.mem_singleton]at h;exact⟨n,by omega,c,h⟩
     ·rw[if_neg c]at h;simp at h
   ·rintro⟨k,h,c,e⟩;by_cases q:k=n
    ·subst q;rw[if_pos c];exact .inr (by simp[e])
    ·exact .inl ⟨k,by omega,c,e⟩
theorem s7 {sp:aa}{x:Int}:∀ {n:Nat},x∈yM sp n↔∃ i k:Nat,i<n/\k<(slN (ag sp i 1)).toNat/\hsB (ag sp i 2) k=true/\x=aaI (ag sp i 0) (ag sp i 1) (ag sp i 2) k
 |0=>by simp[yM]
 | n+1=>by
   rw[yM,List.mem_append,s7,sZ]
   constructor
   ·rintro(⟨i,k,h,e⟩|⟨k,h⟩)
    ·exact⟨i,k,by omega,e⟩
    ·exact⟨n,k,by omega,h⟩
   ·rintro⟨i,k,h,e⟩;by_cases q:i=n
    ·subst q;exact .inr ⟨k,e⟩
    ·exact .inl ⟨i,k,by omega,e⟩
theorem od {lg:aa}{x:Int}:∀ {n:Nat},x∈BA lg n↔∃ j:Nat,j<n/\x=ag lg j 0*16
 |0=>by simp[BA]
 | n+1=>by
   rw[BA,List.mem_append,od,List.mem_singleton]
   constructor
   ·rintro(⟨i,h,e⟩|h)
    ·exact⟨i,by omega,e⟩
    ·exact⟨n,by omega,h⟩
   ·rintro⟨i,h,e⟩;by_cases q:i=n
    ·subst q;exact .inr e
    ·exact .inl ⟨i,by omega,e⟩
theorem B3 {sp:aa}{i:Nat}(h:spOk (ag sp i 0) (ag sp i 1) (ag sp i 2)=true):∀ {n:Nat},n<=(slN (ag sp i 1)).toNat->(zZ sp i n).Nodup
 |0,_=>List.nodup_nil
 | n+1,hn=>by
   rw[zZ];by_cases c:hsB (ag sp i 2) n=true
   ·rw[if_pos c];refine iu (B3 h (by omega)) (fun m=>?_);obtain⟨k,k1,_,k3⟩:=sZ.1 m;have a:=kq (s:=(n:Int)) h (by omega) (by omega);have b:=kq (s:=(k:Int)) h (by omega) (by omega);have q:((k:Int)+1)*clsSz (ag sp i 1)<=(n:Int)*clsSz (ag sp i 1):=Int.mul_le_mul_of_nonneg_right (by omega) (by omega);rw[Int.add_mul]at q;omega
   ·rw[if_neg c,List.append_nil];exact B3 h (by omega)
theorem Ga {sp lg:aa}(F:LY sp lg):∀ {n:Nat},n<=sp.length->(yM sp n).Nodup
 |0,_=>List.nodup_nil
 | n+1,hn=>by
   rw[yM,List.nodup_append];refine⟨Ga F (by omega),B3 (F.s n (by omega)) (Nat.le_refl _),fun x hx y hy e=>?_⟩;subst e;obtain⟨i,k,i1,k1,_,e1⟩:=s7.1 hx;obtain⟨k',k2,_,e2⟩:=sZ.1 hy;have a:=kq (s:=(k:Int)) (F.s i (by omega)) (by omega) (by omega);have b:=kq (s:=(k':Int)) (F.s n (by omega)) (by omega) (by omega);have:=F.ss i n (by omega) (by omega) (by omega);omega
theorem F9 {sp lg:aa}(F:LY sp lg):∀ {n:Nat},n<=lg.length->(BA lg n).Nodup
 |0,_=>List.nodup_nil
 | n+1,hn=>by
   rw[BA];refine iu (F9 F (by omega)) (fun m=>?_);obtain⟨j,j1,e⟩:=od.1 m;have t:=fM (F.l j (by omega));have b:=gf t.1;have t':=fM (F.l n (by omega));have b':=gf t'.1;have:=F.ll j n (ag lg j 0) (by omega) (by omega) (by omega) (by omega) (by omega) (by omega);omega
theorem MV {sp lg:aa}(F:LY sp lg):(KP sp lg).Nodup:=by
 unfold KP;rw[List.nodup_append];refine⟨Ga F (Nat.le_refl _),F9 F (Nat.le_refl _),fun x hx y hy e=>?_⟩;subst e;obtain⟨i,k,i1,k1,_,e1⟩:=s7.1 hx;obtain⟨j,j1,e2⟩:=od.1 hy;have a:=kq (s:=(k:Int)) (F.s i (by omega)) (by omega) (by omega);have t:=fM (F.l j (by omega));have b:=gf t.1;exact F.sl i j i1 j1 (by omega) (by omega)
end Go.V
namespace Go.V
theorem dP {p:Int->Bool}{n:Nat}(h:0<=cE p n):cE p n<n/\p (cE p n)=true:=by
 refine⟨by rcases nQ (p:=p) (n:=n)with q|q<;>omega,?_⟩;unfold cE at h ⊢;split at h
 ·rename_i j e;have q:=List.find?_some e;exact q
 ·omega
theorem kK {p:Int->Bool}{n i:Nat}(h:i<n)(hp:p i=true):0<=cE p n:=by
 unfold cE;split
 ·omega
 ·rename_i e;rw[List.find?_eq_none]at e;exact absurd hp (e i (List.mem_range.2 h))
theorem A6 {sp:aa}{a i:Int}:xh sp a i=true↔A7 (ag sp i 0) (ag sp i 1) (ag sp i 2) a=true:=by
 unfold xh;rw[decide_eq_true_eq]
 constructor
 ·intro h;cases c:A7 (ag sp i 0) (ag sp i 1) (ag sp i 2) a with
  |true=>rfl
  |false=>rw[(x7 c).1]at h;omega
 ·intro h;obtain⟨h1,h2,h3⟩:=vM.1 h;have cb:=gR (hZ h1).2.2.1;rw[(pU h).1];exact Int.ediv_nonneg (by omega) (by omega)
def Tu (sp lg:aa)(x:Int):Prop:=(∃ i k:Nat,i<sp.length/\k<(slN (ag sp i 1)).toNat/\hsB (ag sp i 2) k=true/\x=aaI (ag sp i 0) (ag sp i 1) (ag sp i 2) k)\/∃ j:Nat,j<lg.length/\x=ag lg j 0*16
theorem yZ {sp lg:aa}{x:Int}:x∈KP sp lg↔Tu sp lg x:=by
 unfold KP Tu;rw[List.mem_append,s7,od]
theorem Mq {sp lg:aa}{a:Int}(h:0<=gn sp a):dnK sp lg a=(if hsB (ag sp (gn sp a) 2) (JE sp a (gn sp a))then 1 else 2)/\dnO sp lg a=Lw sp a (gn sp a):=by
 unfold dnK dnO;rw[if_pos h,if_pos h];exact⟨rfl,rfl⟩
theorem Mp {sp lg:aa}{a:Int}(h:¬ 0<=gn sp a)(g:0<=lz lg a):dnK sp lg a=3/\dnO sp lg a=Qt lg a (lz lg a):=by
 unfold dnK dnO;rw[if_neg h,if_neg h,if_pos g,if_pos g];exact⟨rfl,rfl⟩
theorem TH {sp lg:aa}{a:Int}(h:¬ 0<=gn sp a)(g:¬ 0<=lz lg a):dnK sp lg a=0/\dnO sp lg a=0:=by
 unfold dnK dnO;rw[if_neg h,if_neg h,if_neg g,if_neg g];exact⟨rfl,rfl⟩
theorem DD {sp lg:aa}{a:Int}(hl:layOk sp lg=true):sy sp lg a=true↔dnO sp lg a=0/\(dnK sp lg a=1\/dnK sp lg a=3):=by
 unfold sy dzO dzK;rw[if_pos hl,if_pos hl];simp only[Bool.and_eq_true,Bool.or_eq_true,decide_eq_true_eq]
theorem K1 {sp lg:aa}{x:Int}(F:LY sp lg)(hl:layOk sp lg=true)(h:sy sp lg x=true):Tu sp lg x:=by
 obtain⟨h1,h2⟩:=(DD hl).1 h;by_cases c:0<=gn sp x
 ·obtain⟨d1,d2⟩:=Mq (lg:=lg) c;obtain⟨b,q⟩:=dP c;change gn sp x<sp.length at b;change xh sp x (gn sp x)=true at q;rw[d1]at h2;rw[d2]at h1;generalize hF:gn sp x=f at*;obtain⟨f,rfl⟩:=Int.eq_ofNat_of_zero_le c;have bf:f<sp.length:=by omega
  have q':=A6.1 q;obtain⟨a1,a2,a3⟩:=vM.1 q';obtain⟨e1,e2⟩:=pU q';have cb:=gR (hZ a1).2.2.1;have hh:hsB (ag sp f 2) (JE sp x f)=true:=by
   cases c:hsB (ag sp f 2) (JE sp x f)with
   |true=>rfl
   |false=>rw[c]at h2;simp at h2
  unfold Lw at h1;rw[e2]at h1;unfold JE at hh;rw[e1]at hh;have dv:clsSz (ag sp f 1)*((x-ag sp f 0*16)/clsSz (ag sp f 1))=x-ag sp f 0*16:=Int.mul_ediv_cancel_of_emod_eq_zero h1;have nn:0<=(x-ag sp f 0*16)/clsSz (ag sp f 1):=Int.ediv_nonneg (by omega) (by omega);generalize hs:(x-ag sp f 0*16)/clsSz (ag sp f 1)=s at*;have lt:s<slN (ag sp f 1):=by
   by_cases w:s<slN (ag sp f 1)
   ·exact w
   ·have m:slN (ag sp f 1)*clsSz (ag sp f 1)<=s*clsSz (ag sp f 1):=Int.mul_le_mul_of_nonneg_right (by omega) (by omega);rw[Int.mul_comm s]at m;omega
  obtain⟨s,rfl⟩:=Int.eq_ofNat_of_zero_le nn;have ae:=kq a1 nn lt;refine .inl ⟨f,s,bf,by omega,hh,?_⟩;have ae1:=ae.1;rw[Int.mul_comm (s:Int)]at ae1;show x=aaI (ag sp f 0) (ag sp f 1) (ag sp f 2) s;rw[ae1];omega
 ·by_cases g:0<=lz lg x
  ·obtain⟨d1,d2⟩:=Mp c g;obtain⟨b,q⟩:=dP g;change lz lg x<lg.length at b;change xd lg x (lz lg x)=true at q;rw[d2]at h1;generalize hF:lz lg x=f at*;obtain⟨f,rfl⟩:=Int.eq_ofNat_of_zero_le g;refine .inr ⟨f,by omega,?_⟩;unfold Qt loI at h1;unfold xd at q;rw[if_pos q]at h1;show x=ag lg f 0*16;omega
  ·obtain⟨d1,d2⟩:=TH c g;rw[d1]at h2;omega
theorem KJ {sp lg:aa}{x:Int}(h:0<=gn sp x):∃ f:Nat,gn sp x=f/\f<sp.length/\A7 (ag sp f 0) (ag sp f 1) (ag sp f 2) x=true:=by
 obtain⟨b,q⟩:=dP h;obtain⟨f,e⟩:=Int.eq_ofNat_of_zero_le h;refine⟨f,e,?_,?_⟩
 ·have:gn sp x<sp.length:=b;rw[e]at this;exact Int.ofNat_lt.1 this
 ·have:xh sp x (gn sp x)=true:=q;rw[e]at this;exact A6.1 this
theorem K0 {sp lg:aa}{x:Int}(F:LY sp lg)(hl:layOk sp lg=true)(h:Tu sp lg x):sy sp lg x=true:=by
 rw[DD hl];rcases h with⟨i,k,i1,k1,hh,e⟩|⟨j,j1,e⟩
 ·have a1:=F.s i i1;have cb:=gR (hZ a1).2.2.1;have ae:=kq (s:=(k:Int)) a1 (by omega) (by omega);have sb:A7 (ag sp i 0) (ag sp i 1) (ag sp i 2) x=true:=vM.2 ⟨a1,by omega,by omega⟩;have c:0<=gn sp x:=kK i1 (A6.2 sb);obtain⟨f,e1,f1,f2⟩:=KJ (lg:=lg) c;obtain⟨_,g2,g3⟩:=vM.1 f2;have:f=i:=F.ss f i f1 i1 (by omega);subst this;obtain⟨d1,d2⟩:=Mq (lg:=lg) c;rw[d1,d2,e1];obtain⟨y1,y2⟩:=pU sb;have xe:x-ag sp f 0*16=k*clsSz (ag sp f 1):=by omega
  unfold JE Lw;rw[y1,y2,xe,Int.mul_ediv_cancel _ (by omega),if_pos hh];exact⟨Int.mul_emod_left _ _,.inl rfl⟩
 ·have t:=fM (F.l j j1);have b:=gf t.1;have r:=bE.1 t.1;have c:¬ 0<=gn sp x:=fun c=>by
   obtain⟨f,e1,f1,f2⟩:=KJ (lg:=lg) c;obtain⟨_,g2,g3⟩:=vM.1 f2;exact F.sl f j f1 j1 (by omega) (by omega)
  have lb:lhB (ag lg j 0) (ag lg j 1) (ag lg j 2) x=true:=Nj.2 ⟨F.l j j1,by omega,by omega⟩;have g:0<=lz lg x:=kK j1 (show xd lg x j=true from lb);obtain⟨d1,d2⟩:=Mp c g;obtain⟨b1,q⟩:=dP g;change lz lg x<lg.length at b1;change xd lg x (lz lg x)=true at q;rw[d1,d2];generalize hF:lz lg x=f at*;obtain⟨f,rfl⟩:=Int.eq_ofNat_of_zero_le g;have f1:f<lg.length:=by omega
  have q':lhB (ag lg f 0) (ag lg f 1) (ag lg f 2) x=true:=q;obtain⟨_,u1,u2⟩:=Nj.1 q';have t2:=fM (F.l f f1);have b2:=gf t2.1;have:f=j:=F.ll f j (ag lg j 0) f1 j1 (by omega) (by omega) (by omega) (by omega);subst this;refine⟨?_,.inr rfl⟩;show loI (ag lg f 0) (ag lg f 1) (ag lg f 2) x=0;unfold loI;rw[if_pos lb];omega
def Ii (sp lg:aa):Nat->List Int
 |0=>[]
 |n+1=>Ii sp lg n++(if sy sp lg n then[(n:Int)]else[])
theorem pG {sp lg:aa}:∀ n:Nat,Ih sp lg n=eS (Ii sp lg n)
 |0=>rfl
 | n+1=>by
   rw[Ih,Ii,eH,pG n];by_cases c:sy sp lg n=true
   ·rw[if_pos c,if_pos c];rfl
   ·rw[if_neg c,if_neg c];rfl
theorem lG {sp lg:aa}{x:Int}:∀ {n:Nat},x∈Ii sp lg n↔0<=x/\x<n/\sy sp lg x=true
 |0=>⟨(fun h=>by cases h),(fun h=>absurd h.2.1 (by omega))⟩
 | n+1=>by
   rw[Ii,List.mem_append,lG]
   constructor
   ·rintro(h|h)
    ·exact⟨h.1,by omega,h.2.2⟩
    ·by_cases c:sy sp lg n=true
     ·rw[if_pos c,List.mem_singleton]at h;subst h;exact⟨by omega,by omega,c⟩
     ·rw[if_neg c]at h;cases h
   ·rintro⟨h1,h2,h3⟩;by_cases q:x=n
    ·subst q;rw[if_pos h3];exact .inr (by simp)
    ·exact .inl ⟨h1,by omega,h3⟩
theorem Cp {sp lg:aa}:∀ n:Nat,(Ii sp lg n).Pairwise (· < ·)
 |0=>List.Pairwise.nil
 | n+1=>by
   rw[Ii,List.pairwise_append];refine⟨Cp n,?_,fun a ha b hb=>?_⟩
   ·by_cases c:sy sp lg n=true
    ·rw[if_pos c];simp
    ·rw[if_neg c];simp
   ·have m:=lG.1 ha;by_cases c:sy sp lg n=true
    ·rw[if_pos c,List.mem_singleton]at hb;omega
    ·rw[if_neg c]at hb;cases hb
theorem Jr {l:List Int}(h:l.Nodup):(l.mergeSort fun x y=>decide (x<=y)).Pairwise (· < ·):=by
 have p:=List.pairwise_mergeSort (le:=fun x y:Int=>decide (x<=y)) (fun a b c h1 h2=>by simp only[decide_eq_true_eq]at*;omega) (fun a b=>by simp only[Bool.or_eq_true,decide_eq_true_eq];omega) l;have n:(l.mergeSort fun x y=>decide (x<=y)).Nodup:=(List.mergeSort_perm l _).nodup_iff.2 h;refine List.Pairwise.imp₂ (R:=fun a b=>decide (a<=b)=true) (S:=(· ≠ ·)) (T:=(· < ·)) (fun a b h1 h2=>?_) p n;simp only[decide_eq_true_eq]at h1;omega
theorem Jb {sp lg:aa}:iaL sp lg=laL sp lg:=by
 unfold iaL laL;by_cases hl:layOk sp lg=true
 ·rw[if_pos hl,if_pos hl];have F:=Jc hl;unfold srtL;rw[B5,pG];refine congrArg eS (tx (Jr (MV F)) (Cp 512) (fun x=>?_));rw[(List.mergeSort_perm _ _).mem_iff,yZ,lG]
  constructor
  ·intro h;have v:=K0 F hl h;refine⟨?_,?_,v⟩
   ·rcases h with⟨i,k,i1,k1,_,e⟩|⟨j,j1,e⟩
    ·have ae:=kq (s:=(k:Int)) (F.s i i1) (by omega) (by omega);have t:=hZ (F.s i i1);omega
    ·have t:=fM (F.l j j1);omega
   ·rcases h with⟨i,k,i1,k1,_,e⟩|⟨j,j1,e⟩
    ·have ae:=kq (s:=(k:Int)) (F.s i i1) (by omega) (by omega);have t:=hZ (F.s i i1);omega
    ·have t:=fM (F.l j j1);have b:=gf t.1;omega
  ·rintro⟨_,_,h⟩;exact K1 F hl h
 ·rw[if_neg hl,if_neg hl]
end Go.V
namespace Go.V
def xc (qs:aa)(a j:Int):Bool:=eqB (ag qs j 0) a
def qtI (qs:aa)(a:Int):Int:=cE (xc qs a) qs.length
def qtB (qs:aa)(a:Int):Bool:=decide (0<=qtI qs a)
theorem NV {qs:aa}{a i:Int}(h:upto (cg (xc qs a)) i)(h0:0<=i)(h1:i<qs.length)(e:ag qs i 0=a):qtB qs a=true:=by
 unfold qtB qtI;rw[cJ h h0 h1 (nM e)];exact decide_eq_true h0
theorem RD {qs:aa}{a i:Int}(h:upto (cg (xc qs a)) i)(h1:(qs.length:Int)<=i):qtB qs a=false:=by
 unfold qtB qtI;rw[cK h h1];rfl
end Go.V
namespace Go.V
structure J8 (ls:aa):Prop where
 w:Rw [.sl [tI]] ls
 l:ls.length<=1099511627776
 n:∀ i:Int,(aR ls i 0).length<=1099511627776
theorem J8.el {ls:aa}(h:J8 ls){i:Int}(h0:0<=i)(h1:i<ls.length):Rw [tI] (aR ls i 0)/\(aR ls i 0).length<=1099511627776:=
 ⟨Rw.sub (fs:=[.sl [tI]]) h.w (by omega) rfl,h.n i⟩
end Go.V
namespace Go.V
def EN (b:aa)(i k:Int):Bool:=inR (ag (aR b i 0) k 0) 0 ((b.length:Int)-1)&&decide (0<=ag (aR b i 0) k 1)
def Fe (x:aa)(i k:Int):Bool:=decide (0<=ag (aR x i 0) k 0)
def OP (b x:aa)(i:Int):Bool:=ce (EN b i) (aR b i 0).length&&ce (Fe x i) (aR x i 0).length
def Jh (b x:aa):Nat->Int
 |0=>0
 |n+1=>Jh b x n+((aR b n 0).length+(aR x n 0).length)
def mailOk (b x:aa):Bool:=inR b.length 1 4&&(decide (x.length=b.length)&&(ce (OP b x) b.length&&decide (Jh b x b.length<=30)))
structure zY (b x:aa):Prop where
 bw:Rw [.sl [tI,tI]] b
 xw:Rw [.sl [tI]] x
 bl:b.length<=1099511627776
 xl:x.length<=1099511627776
 bn:∀ i:Int,(aR b i 0).length<=1099511627776
 xn:∀ i:Int,(aR x i 0).length<=1099511627776
theorem K6 {b x:aa}(h:zY b x):∀ n:Nat,0<=Jh b x n/\Jh b x n<=2199023255552*n
 |0=>⟨Int.le_refl _,Int.le_refl _⟩
 | n+1=>by
   have q:=K6 h n;have p1:=h.bn n;have p2:=h.xn n;rw[Jh];omega
structure Ir (b x:aa)(i t:Int):Prop where
 ok:upto (OP b x) i
 t:t=Jh b x i.toNat
theorem Ux {b x:aa}:Ir b x 0 0:=⟨bi,rfl⟩
theorem QK {b x:aa}{i t:Int}(N:zY b x)(h:Ir b x i t)(i0:0<=i)(i1:i<=4):0<=t/\t<=8796093022208:=by
 have q:=K6 N i.toNat;have e:=h.t;omega
theorem QL {b x:aa}{i t k j:Int}(h:Ir b x i t)(i0:0<=i)(hp:upto (EN b i) k)(k1:((aR b i 0).length:Int)<=k)(ha:upto (Fe x i) j)(j1:((aR x i 0).length:Int)<=j):Ir b x (i+1) (t+((aR b i 0).length+(aR x i 0).length)):=by
 refine⟨aV h.ok ?_,?_⟩
 ·unfold OP;rw[bB hp k1,bB ha j1];rfl
 ·rw[show(i+1).toNat=i.toNat+1 from by omega,Jh, <-h.t,Int.toNat_of_nonneg i0]
theorem Nz {b x:aa}(h:inR b.length 1 4=false):mailOk b x=false:=by unfold mailOk;rw[h];rfl
theorem NA {b x:aa}(h:(x.length:Int)≠b.length):mailOk b x=false:=by
 unfold mailOk;rw[decide_eq_false (p:=x.length=b.length) (by omega)];simp
theorem K5 {b x:aa}{i:Int}(i0:0<=i)(i1:i<b.length)(h:OP b x i=false):mailOk b x=false:=by
 unfold mailOk;rw[bM i0 i1 h];simp
theorem GR {b x:aa}{i k:Int}(i0:0<=i)(i1:i<b.length)(k0:0<=k)(k1:k<(aR b i 0).length)(h:EN b i k=false):mailOk b x=false:=
 K5 i0 i1 (by unfold OP;rw[bM k0 k1 h];rfl)
theorem NB {b x:aa}{i k:Int}(i0:0<=i)(i1:i<b.length)(k0:0<=k)(k1:k<(aR x i 0).length)(h:Fe x i k=false):mailOk b x=false:=
 K5 i0 i1 (by unfold OP;rw[bM k0 k1 h,Bool.and_false])
theorem Ny {b x:aa}{i t:Int}(h:Ir b x i t)(h1:inR b.length 1 4=true)(h2:(x.length:Int)=b.length)(i1:i<=b.length)(i2:(b.length:Int)<=i):mailOk b x=decide (t<=30):=by
 have e:i.toNat=b.length:=by omega
 have q:=h.t;rw[e]at q;unfold mailOk;rw[h1,decide_eq_true (p:=x.length=b.length) (by omega),bB h.ok i2, <-q];rfl
theorem Q7 {b:aa}{i k:Int}(h:inR (ag (aR b i 0) k 0) 0 ((b.length:Int)-1)=false):EN b i k=false:=by unfold EN;rw[h];rfl
theorem Q8 {b:aa}{i k:Int}(h:ag (aR b i 0) k 1<0):EN b i k=false:=by unfold EN;rw[decide_eq_false (by omega),Bool.and_false]
theorem Q9 {b:aa}{i k:Int}(h:inR (ag (aR b i 0) k 0) 0 ((b.length:Int)-1)=true)(g:0<=ag (aR b i 0) k 1):EN b i k=true:=by unfold EN;rw[h,decide_eq_true g];rfl
theorem Tx {x:aa}{i k:Int}(h:ag (aR x i 0) k 0<0):Fe x i k=false:=by unfold Fe;rw[decide_eq_false (by omega)]
theorem O1 {x:aa}{i k:Int}(h:0<=ag (aR x i 0) k 0):Fe x i k=true:=by unfold Fe;rw[decide_eq_true h]
end Go.V
namespace Go.V
def KE (b:aa)(i:Int):Nat->aa
 |0=>[]
 |n+1=>KE b i n++[[.i (ag (aR b i 0) n 1)]]
def FO (b:aa):Nat->aa
 |0=>[]
 |n+1=>FO b n++KE b n (aR b n 0).length
def Ig (x:aa):Nat->aa
 |0=>[]
 |n+1=>Ig x n++aR x n 0
def ifL (b x:aa):aa:=if mailOk b x then FO b b.length++Ig x x.length else[]
theorem NC {b x:aa}(h:mailOk b x=true):b.length<=4/\x.length=b.length:=by
 unfold mailOk at h;simp only[Bool.and_eq_true,decide_eq_true_eq,bE]at h;omega
structure J3 (b:aa)(i:Int)(o:aa):Prop where
 e:o=FO b i.toNat
 l:o.length<=1099511627776*i.toNat
structure J4 (b:aa)(i k:Int)(o:aa):Prop where
 e:o=FO b i.toNat++KE b i k.toNat
 l:o.length<=1099511627776*i.toNat+k.toNat
structure J5 (b x:aa)(j:Int)(o:aa):Prop where
 e:o=FO b b.length++Ig x j.toNat
 l:o.length<=1099511627776*b.length+1099511627776*j.toNat
theorem TM {b:aa}:J3 b 0 []:=⟨rfl,Nat.zero_le _⟩
theorem TN {b o:aa}{i:Int}(h:J3 b i o):J4 b i 0 o:=⟨by rw[h.e];simp[KE],by have:=h.l;omega⟩
theorem Ps {b o:aa}{i k:Int}(h:J4 b i k o)(k0:0<=k):J4 b i (k+1) (o++[[.i (ag (aR b i 0) k 1)]]):=by
 have l:=h.l;have e:=h.e;refine⟨?_,?_⟩
 ·rw[show(k+1).toNat=k.toNat+1 from by omega,KE,Int.toNat_of_nonneg k0, <-List.append_assoc, <-e]
 ·rw[List.length_append,List.length_cons,List.length_nil];omega
theorem Mx {b o:aa}{i k:Int}(h:J4 b i k o)(i0:0<=i)(hn:(aR b i 0).length<=1099511627776)(k1:k<=((aR b i 0).length:Int))(k2:((aR b i 0).length:Int)<=k):J3 b (i+1) o:=by
 have l:=h.l;have e:=h.e;have ek:k.toNat=(aR b i 0).length:=by omega
 refine⟨?_,by omega⟩;rw[show(i+1).toNat=i.toNat+1 from by omega,FO,Int.toNat_of_nonneg i0, <-ek];exact e
theorem TP {b x o:aa}{i:Int}(h:J3 b i o)(i1:i<=b.length)(i2:(b.length:Int)<=i):J5 b x 0 o:=by
 have l:=h.l;have e:=h.e;have ei:i.toNat=b.length:=by omega
 rw[ei]at e l;exact⟨by rw[e];simp[Ig],by omega⟩
theorem Pw {b x o:aa}{j:Int}(h:J5 b x j o)(j0:0<=j)(hn:(aR x j 0).length<=1099511627776):J5 b x (j+1) (o++aR x j 0):=by
 have l:=h.l;have e:=h.e;refine⟨?_,?_⟩
 ·rw[show(j+1).toNat=j.toNat+1 from by omega,Ig,Int.toNat_of_nonneg j0, <-List.append_assoc, <-e]
 ·rw[List.length_append];omega
theorem MC {b x o:aa}{j:Int}(h:J5 b x j o)(hm:mailOk b x=true)(j1:j<=x.length)(j2:(x.length:Int)<=j):o=ifL b x:=by
 have e:=h.e;rw[show j.toNat=x.length from by omega]at e;unfold ifL;rw[if_pos hm];exact e
theorem Ug {b x:aa}(hm:mailOk b x=false):([]:aa)=ifL b x:=by unfold ifL;rw[hm];rfl
end Go.V
namespace Go.V
structure Vl (cs:aa):Prop where
 w:Rw [.sl [.sl [tI]]] cs
 l:cs.length<=1099511627776
 n:∀ i:Int,0<=i->i<cs.length->J8 (aR cs i 0)
end Go.V
namespace Go.V
theorem xy :∀ {fs:List Ty} {e:aP} {j:Nat},b9 fs e->fs[j]?=some tI->∃ n,e[j]?=some (.i n)/\ -9223372036854775808<=n/\n<=9223372036854775807
 |[],_,j,_,h=>by simp at h
 |_::_,[],j,h,_=>h.elim
 | t::ts,l::ls,0,h,e=>by
   simp at e;subst e;have h1:=h.1;cases l with
   | v x=>cases x with
     |int k n=>simp only[cz]at h1;exact⟨n,by simp[h1.1],dQ h1.2⟩
     |_=>simp[cz]at h1
   |_=>simp[cz]at h1
 | t::ts,l::ls,j+1,h,e=>by
   simp at e;obtain⟨n,h1,h2⟩:=xy h.2 e;exact⟨n,by simpa using h1,h2⟩
theorem nW {fs:List Ty}{es:aa}{i:Int}{j:Nat}(h:Rw fs es)(hj:fs[j]?=some tI)(h1:i.toNat<es.length): -9223372036854775808<=ag es i j/\ag es i j<=9223372036854775807:=by
 obtain⟨n,e,b⟩:=xy (h.at h1) hj;unfold ag;rw[List.getD_eq_getElem?_getD (l:=es.getD i.toNat []),e];exact b
theorem US {x:Int}(h: -9223372036854775808<=x/\x<=9223372036854775807):Rw [tI] [[.i x]]:=Rw.one (fs:=[tI]) ⟨⟨rfl,h⟩,trivial⟩
def OM (os:aa)(f:Nat):Nat->aa
 |0=>[]
 |n+1=>OM os f n++[[.i (ag os n f)]]
def TD (ls:aa):Nat->aa
 |0=>[]
 |n+1=>TD ls n++aR ls n 0
def Tn (cs:aa):Nat->aa
 |0=>[]
 |n+1=>Tn cs n++TD (aR cs n 0) (aR cs n 0).length
theorem u9 {es:aa}{n j:Nat}(h:n<es.length):ah (aR es n j)<=cI (es.getD n []):=by
 unfold aR;rw[Int.toNat_natCast];generalize es.getD n []=r;cases e:r[j]? with
 |none=>rw[List.getD_eq_getElem?_getD,e];exact Nat.zero_le _
 | some l=>
   rw[List.getD_eq_getElem?_getD,e];have q:=C8 e;cases l with
   |s sz es=>exact q
   |_=>exact Nat.zero_le _
theorem jr {es:aa}{n:Nat}(h:n<es.length):bD (es.take (n+1))=bD (es.take n)+cI (es.getD n []):=by
 rw[dF (d:=[]) h,ea];simp[bD]
theorem As {es:aa}{n:Nat}:bD (es.take n)<=bD es:=by
 conv=>rhs;rw[<-List.take_append_drop n es,ea]
 omega
theorem nR {b:aa}{i:Int}:∀ n,(KE b i n).length=n
 |0=>rfl
 |n+1=>by rw[KE,List.length_append,nR n];rfl
theorem GY {b x:aa}:∀ n:Nat,(((FO b n).length+(Ig x n).length:Nat):Int)=Jh b x n
 |0=>rfl
 | n+1=>by
   have q:=GY (b:=b) (x:=x) n;rw[Jh,FO,Ig,List.length_append,List.length_append,nR, <-q];omega
theorem B4 {b x:aa}:(ifL b x).length<=30:=by
 unfold ifL;by_cases c:mailOk b x=true
 ·rw[if_pos c,List.length_append];have t:=NC c;unfold mailOk at c;simp only[Bool.and_eq_true,decide_eq_true_eq]at c;have q:=GY (b:=b) (x:=x) b.length;rw[t.2];omega
 ·rw[if_neg c];exact Nat.zero_le _
theorem Nm {b x:aa}{i:Int}(h:zY b x)(i0:0<=i)(i1:i<b.length):∀ n,n<=(aR b i 0).length->Rw [tI] (KE b i n)
 |0,_=>Rw.nil
 | n+1,hn=>Rw.append (Nm h i0 i1 n (by omega)) (US (nW (fs:=[tI,tI]) (Rw.sub (fs:=[.sl [tI,tI]]) h.bw (by omega) rfl) rfl (by omega))) (by
    have:=h.bn i;rw[nR];unfold maxLen;simp only[List.length_cons,List.length_nil];omega)
theorem FP {b x:aa}(h:zY b x)(hb:b.length<=4):∀ n,n<=b.length->Rw [tI] (FO b n)/\(FO b n).length<=n*1099511627776
 |0,_=>⟨Rw.nil,Nat.zero_le _⟩
 | n+1,hn=>by
   obtain⟨q1,q2⟩:=FP h hb n (by omega);have l:=h.bn n;refine⟨Rw.append q1 (Nm h (by omega) (by omega) _ (Nat.le_refl _)) (by rw[nR];unfold maxLen;omega),?_⟩;rw[FO,List.length_append,nR];omega
theorem FW {b x:aa}(h:zY b x)(hb:x.length<=4):∀ n,n<=x.length->Rw [tI] (Ig x n)/\(Ig x n).length<=n*1099511627776
 |0,_=>⟨Rw.nil,Nat.zero_le _⟩
 | n+1,hn=>by
   obtain⟨q1,q2⟩:=FW h hb n (by omega);have l:=h.xn n;refine⟨Rw.append q1 (Rw.sub (fs:=[.sl [tI]]) h.xw (by omega) rfl) (by unfold maxLen;omega),?_⟩;rw[Ig,List.length_append];omega
theorem Gf {b x:aa}(h:zY b x):Rw [tI] (ifL b x):=by
 unfold ifL;by_cases c:mailOk b x=true
 ·rw[if_pos c];have t:=NC c;obtain⟨q1,l1⟩:=FP h t.1 b.length (Nat.le_refl _);obtain⟨q2,l2⟩:=FW h (by omega) x.length (Nat.le_refl _);exact Rw.append q1 q2 (by unfold maxLen;omega)
 ·rw[if_neg c];exact Rw.nil
structure zX (sp lg os cs b x qs:aa):Prop where
 sw:Rw [tI,tI,tI] sp
 lw:Rw [tI,tI,tI] lg
 ow:Rw [tI,tI,tI,tI] os
 cw:Rw [.sl [.sl [tI]]] cs
 qw:Rw [tI,tI,tI] qs
 m:zY b x
 c:Vl cs
 sl:sp.length<=1073741824
 ll:lg.length<=1073741824
 ol:os.length<=1073741824
 ql:qs.length<=1073741824
 cl:ah cs<=1073741824
structure Wc (os:aa)(i:Int)(o:aa):Prop where
 e:o=OM os 1 i.toNat
structure Wd (os cs:aa)(i:Int)(o:aa):Prop where
 e:o=OM os 1 os.length++Tn cs i.toNat
structure We (os cs:aa)(i k:Int)(o:aa):Prop where
 e:o=OM os 1 os.length++Tn cs i.toNat++TD (aR cs i 0) k.toNat
structure Wg (os cs qs:aa)(j:Int)(o:aa):Prop where
 e:o=OM os 1 os.length++Tn cs cs.length++OM qs 0 j.toNat
section
variable {sp lg os cs b x qs o : aa} {i k j : Int}
end
def I0 (e:aP):Int:=KZ (e.getD 0 .g)
theorem xM {l:aa}{a:Int}:hasB l a=true↔a∈l.map I0:=by
 rw[Di,List.mem_map]
 constructor
 ·rintro⟨k,hk,e⟩;refine⟨l[k],List.getElem_mem _,?_⟩;rw[<-e];unfold ag I0;rw[Int.toNat_natCast,List.getD_eq_getElem?_getD (l:=l),List.getElem?_eq_getElem hk];rfl
 ·rintro⟨e,he,q⟩;obtain⟨k,hk,rfl⟩:=List.mem_iff_getElem.1 he;refine⟨k,hk,?_⟩;rw[<-q];unfold ag I0;rw[Int.toNat_natCast,List.getD_eq_getElem?_getD (l:=l),List.getElem?_eq_getElem hk];rfl
theorem IY {l m:aa}{a:Int}:hasB (l++m) a=(hasB l a||hasB m a):=by
 refine ew ?_;rw[Bool.or_eq_true,xM,xM,xM,List.map_append,List.mem_append]
theorem IZ {x a:Int}:hasB [[.i x]] a=true↔x=a:=by
 rw[xM];show a∈[x]↔x=a;rw[List.mem_singleton];exact⟨Eq.symm,Eq.symm⟩
theorem xG {p:Int->Bool}{n:Nat}:0<=cE p n↔∃ k:Nat,k<n/\p k=true:=by
 constructor
 ·intro h;obtain⟨h1,h2⟩:=dP h;obtain⟨k,e⟩:=Int.eq_ofNat_of_zero_le h;rw[e]at h1 h2;exact⟨k,by omega,h2⟩
 ·rintro⟨k,h1,h2⟩;exact kK h1 h2
def Vt (p:Int->Bool)(l:aa):Nat->aa
 |0=>[]
 |n+1=>Vt p l n++(if p (ag l n 0)then[[.i (ag l n 0)]]else[])
structure VQ (p:Int->Bool)(l:aa)(i:Int)(o:aa):Prop where
 e:o=Vt p l i.toNat
 l:o.length<=i.toNat
section
variable {p : Int -> Bool} {l o : aa} {i : Int}
end
theorem Gu {sp lg:aa}:(laL sp lg).length<=512:=by
 have k:∀ n,(Ih sp lg n).length<=n:=by
  intro n
  induction n with
  |zero=>exact Nat.le_refl _
  |succ n ih=>rw[Ih,List.length_append];split<;>simp<;>omega
 unfold laL;split
 ·exact k 512
 ·exact Nat.zero_le _
theorem Qm {sp lg:aa}:Rw [tI] (laL sp lg):=by
 unfold laL;by_cases c:layOk sp lg=true
 ·rw[if_pos c,pG];refine pT (fun x hx=>?_) ?_
  ·have:=lG.1 hx;omega
  ·have q:=Gu (sp:=sp) (lg:=lg);unfold laL at q;rw[if_pos c,pG,bR]at q;omega
 ·rw[if_neg c];exact Rw.nil
theorem xX {l:aa}{i:Int}(h:Rw [tI] l)(h0:0<=i)(h1:i<l.length):∃ rec o,bN (L.s 1 l) [(i.toNat,0)]=some (rec,o)/\o+[L.v (Value.int IntKind.i64 0)].length<=rec.length/\List.take [L.v (Value.int IntKind.i64 0)].length (List.drop o rec)=jt aj (L.s 1 l) [(i.toNat,0)] 0 [L.v (Value.int IntKind.i64 0)]:=
 hE (z0:=[.i 0]) (z:=[.i 0]) h.wf (by omega) rfl (by decide)
theorem yI {es:aa}{i:Int}{j:Nat}:ah (aR es i j)<=ah es:=by
 by_cases c:i.toNat<es.length
 ·have q:=u9 (j:=j) c;rw[show aR es (i.toNat:Nat) j=aR es i j from by unfold aR;rw[Int.toNat_natCast]]at q;have d:=jr c;have e:=As (es:=es) (n:=i.toNat+1);unfold ah at q ⊢;omega
 ·have e:aR es i j=[]:=by
   unfold aR;rw[List.getD_eq_getElem?_getD (l:=es),List.getElem?_eq_none (by omega)];simp[E7]
  rw[e];exact Nat.zero_le _
theorem NH {ls:aa}(h:Rw [.sl [tI]] ls)(hc:ah ls<=1073741824):J8 ls:=by
 refine⟨h,by unfold ah at hc;omega,fun i=>?_⟩;have:=yI (es:=ls) (i:=i) (j:=0);unfold ah at this hc;omega
theorem NG {cs:aa}(h:Rw [.sl [.sl [tI]]] cs)(hc:ah cs<=1073741824):Vl cs:=by
 refine⟨h,by unfold ah at hc;omega,fun i i0 i1=>NH (Rw.sub (fs:=[.sl [.sl [tI]]]) h (by omega) rfl) ?_⟩;exact Nat.le_trans yI hc
theorem NI {b x:aa}(hb:Rw [.sl [tI,tI]] b)(hx:Rw [.sl [tI]] x)(cb:ah b<=1073741824)(cx:ah x<=1073741824):zY b x:=by
 refine⟨hb,hx,by unfold ah at cb;omega,by unfold ah at cx;omega,fun i=>?_,fun i=>?_⟩
 ·have:=yI (es:=b) (i:=i) (j:=0);unfold ah at this cb;omega
 ·have:=yI (es:=x) (i:=i) (j:=0);unfold ah at this cx;omega
end Go.V
namespace Go.V
theorem xi {i:Int}(h:0<=i)(h1:i<=9223372036854775807):bF .sub .i64 i 1=i-1:=cR (by omega)
theorem vP {es:aa}{i:Int}:xj es (Int.toNat 0) (Mo i 0)=es.take i.toNat:=by simp[xj,Mo]
theorem cmp_eq {a b:Int}:cD .eql a b=decide (a=b):=by unfold cD;by_cases c:a=b<;>simp[c]
theorem yC {a b:Int}:cD .neq a b=decide (a≠b):=by unfold cD;by_cases c:a=b<;>simp[c]
def rngIn (n a l:Int):Bool:=inR l 1 n&&inR a 0 (n-l)
def pP (n:Int)(rs:aa)(i:Int):Bool:=rngIn n (ag rs i 0) (ag rs i 1)&& !(decide (0<i)&&decide (ag rs i 0<=bF .add .i64 (ag rs (i-1) 0) (ag rs (i-1) 1)))
def rgOk (n:Int)(rs:aa):Bool:=ce (pP n rs) rs.length&&inR n 1 32
section
variable {n i : Int} {rs : aa}
theorem NX (i0:0<=i)(i1:i<rs.length)(h:rngIn n (ag rs i 0) (ag rs i 1)=false):rgOk n rs=false:=by
 unfold rgOk;rw[bM i0 i1 (by unfold pP;rw[h];rfl)];rfl
theorem NY (i0:0<=i)(i1:i<rs.length)(h:0<i)(g:ag rs i 0<=bF .add .i64 (ag rs (i-1) 0) (ag rs (i-1) 1)):rgOk n rs=false:=by
 unfold rgOk;rw[bM i0 i1 (by unfold pP;rw[decide_eq_true h,decide_eq_true g];simp)];rfl
theorem Jx (h:rngIn n (ag rs i 0) (ag rs i 1)=true)(g:i<=0):pP n rs i=true:=by
 unfold pP;rw[h,decide_eq_false (by omega)];rfl
theorem Jy (h:rngIn n (ag rs i 0) (ag rs i 1)=true)(g:bF .add .i64 (ag rs (i-1) 0) (ag rs (i-1) 1)<ag rs i 0):pP n rs i=true:=by
 unfold pP;rw[h,decide_eq_false (p:=ag rs i 0<=_) (by omega)];simp
theorem NW (h:upto (pP n rs) i)(g:(rs.length:Int)<=i):inR n 1 32=rgOk n rs:=by unfold rgOk;rw[bB h g];rfl
end
def nX (rs:aa)(p j:Int):Bool:=decide (ag rs j 0<=p)&&decide (p<bF .add .i64 (ag rs j 0) (ag rs j 1))
def rhI (rs:aa)(p:Int):Int:=cE (nX rs p) rs.length
def rhB (rs:aa)(p:Int):Bool:=decide (0<=rhI rs p)
def rh1 (a l p:Int):Bool:=decide (a<=p)&&decide (p<bF .add .i64 a l)
theorem NZ {rs:aa}{p i:Int}(h:upto (cg (nX rs p)) i)(h0:0<=i)(h1:i<rs.length)(a:ag rs i 0<=p)(b:p<bF .add .i64 (ag rs i 0) (ag rs i 1)):rhB rs p=true:=by
 unfold rhB rhI;rw[cJ h h0 h1 (by unfold nX;rw[decide_eq_true a,decide_eq_true b];rfl)];exact decide_eq_true h0
theorem RG {rs:aa}{p i:Int}(h:upto (cg (nX rs p)) i)(h1:(rs.length:Int)<=i):rhB rs p=false:=by
 unfold rhB rhI;rw[cK h h1];rfl
theorem RE {rs:aa}{p i:Int}(a:p<ag rs i 0):cg (nX rs p) i=true:=by unfold cg nX;rw[decide_eq_false (by omega)];rfl
theorem RF {rs:aa}{p i:Int}(b:bF .add .i64 (ag rs i 0) (ag rs i 1)<=p):cg (nX rs p) i=true:=by unfold cg nX;rw[decide_eq_false (p:=p<_) (by omega)];simp
def mshB (p1 k1 b1 p2 k2 b2:Int):Bool:=spOk p1 k1 b1&&(spOk p2 k2 b2&&(decide (k1=k2)&&(decide (p1≠p2)&&decide (bF .and .i64 b1 b2=0))))
def NS (qs:aa):Nat->Int
 |0=>0
 |n+1=>NS qs n+clsSz (ag qs n 1)
def qcI (qs:aa):Int:=NS qs qs.length
theorem C6 {k:Int}:0<=clsSz k/\clsSz k<=8:=by
 unfold clsSz;repeat' split
 all_goals omega
theorem Ll {qs:aa}:∀ n:Nat,0<=NS qs n/\NS qs n<=8*n
 |0=>⟨Int.le_refl _,Int.le_refl _⟩
 |n+1=>by have q:=Ll (qs:=qs) n;have c:=C6 (k:=ag qs n 1);rw[NS];omega
structure Is (qs:aa)(i t:Int):Prop where
 e:t=NS qs i.toNat
theorem UG {qs:aa}:Is qs 0 0:=⟨rfl⟩
theorem UH {qs:aa}{i t:Int}(h:Is qs i t)(i0:0<=i):0<=t/\t<=8*i:=by have q:=Ll (qs:=qs) i.toNat;rw[<-h.e]at q;omega
theorem Ru {qs:aa}{i t:Int}(h:Is qs i t)(i0:0<=i)(i1:i<=1099511627776):Is qs (i+1) (bF .add .i64 t (clsSz (ag qs i 1))):=by
 have b:=UH h i0;have c:=C6 (k:=ag qs i 1);refine⟨?_⟩;rw[show bF .add .i64 t (clsSz (ag qs i 1))=t+clsSz (ag qs i 1)from bc (by omega),show(i+1).toNat=i.toNat+1 from by omega,NS, <-h.e,Int.toNat_of_nonneg i0]
theorem NU {qs:aa}{i t:Int}(h:Is qs i t)(i1:i<=qs.length)(i2:(qs.length:Int)<=i):t=qcI qs:=by unfold qcI;rw[h.e,show i.toNat=qs.length from by omega]
def stlOk (b:aa)(a c s:Int):Bool:=inR c 0 3&&(decide (0<=a)&&(decide (0<=s)&&(!qtB b a&&(decide (b.length=0)||decide (ag b (b.length-1:Int) 2<=s)))))
def AY (qs:aa)(i:Int):Bool:=stlOk (qs.take i.toNat) (ag qs i 0) (ag qs i 1) (ag qs i 2)
def quarOk (rm:Int)(qs:aa):Bool:=ce (AY qs) qs.length&&(inR rm 0 500&&decide (qcI qs<=rm))
def staB (a c s:Int):Bool:=inR c 0 3&&(decide (0<=a)&&decide (0<=s))
theorem sU {es:aa}{n:Nat}{i:Int}{j:Nat}(h:i.toNat<n):ag (es.take n) i j=ag es i j:=by
 unfold ag;rw[List.getD_eq_getElem?_getD (l:=es.take n),List.getElem?_take,if_pos h,List.getD_eq_getElem?_getD (l:=es)]
section
variable {rm i : Int} {qs : aa}
theorem D5 (i0:0<=i)(i1:i<qs.length)(h:AY qs i=false):quarOk rm qs=false:=by unfold quarOk;rw[bM i0 i1 h];rfl
theorem Hp (h:upto (AY qs) i)(g:(qs.length:Int)<=i):quarOk rm qs=(inR rm 0 500&&decide (qcI qs<=rm)):=by unfold quarOk;rw[bB h g];rfl
theorem Rp (h:staB (ag qs i 0) (ag qs i 1) (ag qs i 2)=false):AY qs i=false:=by
 unfold AY stlOk;unfold staB at h
 revert h
 cases inR (ag qs i 1) 0 3<;>cases decide (0<=ag qs i 0)<;>cases decide (0<=ag qs i 2)<;>simp
theorem D4 (i0:0<i)(i1:i<qs.length):(decide ((qs.take i.toNat).length=0)||decide (ag (qs.take i.toNat) ((qs.take i.toNat).length-1:Int) 2<=ag qs i 2))=decide (ag qs (i-1) 2<=ag qs i 2):=by
 have e:(qs.take i.toNat).length=i.toNat:=by rw[List.length_take];omega
 rw[e,sU (by omega),decide_eq_false (p:=i.toNat=0) (by omega),show((i.toNat:Nat):Int)-1=i-1 from by omega];rfl
theorem Rq (i0:0<i)(i1:i<qs.length)(h:ag qs i 2<ag qs (i-1) 2):AY qs i=false:=by
 unfold AY stlOk;rw[D4 i0 i1,decide_eq_false (p:=ag qs (i-1) 2<=ag qs i 2) (by omega)];simp
theorem Rr (h:qtB (qs.take i.toNat) (ag qs i 0)=true):AY qs i=false:=by unfold AY stlOk;rw[h];simp
theorem Rs (h:staB (ag qs i 0) (ag qs i 1) (ag qs i 2)=true)(g:qtB (qs.take i.toNat) (ag qs i 0)=false)(i0:0<=i)(z:i<=0):AY qs i=true:=by
 unfold AY stlOk;unfold staB at h;simp only[Bool.and_eq_true]at h;have e:i=0:=by omega
 subst e;rw[h.1,h.2.1,h.2.2,g];rfl
theorem Rt (h:staB (ag qs i 0) (ag qs i 1) (ag qs i 2)=true)(g:qtB (qs.take i.toNat) (ag qs i 0)=false)(i0:0<i)(i1:i<qs.length)(z:ag qs (i-1) 2<=ag qs i 2):AY qs i=true:=by
 unfold AY stlOk;unfold staB at h;simp only[Bool.and_eq_true]at h;rw[D4 i0 i1,h.1,h.2.1,h.2.2,g,decide_eq_true z];rfl
end
def sM (ls:aa)(i:Int):Nat->List Int
 |0=>[]
 |n+1=>sM ls i n++[ag (aR ls i 0) n 0]
def sO (ls:aa):Nat->List Int
 |0=>[]
 |n+1=>sO ls n++sM ls n (aR ls n 0).length
def Kf (ls:aa)(i k:Int):Bool:=inR (ag (aR ls i 0) k 0) 0 511&&decide (bF .rem .i64 (ag (aR ls i 0) k 0) (clsSz i)=0)
def Mg (ls:aa)(i:Int):Bool:=decide ((aR ls i 0).length<=8)&&ce (Kf ls i) (aR ls i 0).length
def caOk (ls:aa):Bool:=decide (ls.length=4)&&(ce (Mg ls) 4&&decide ((sO ls 4).Nodup))
theorem sN {ls:aa}{i:Int}:∀ n,(sM ls i n).length=n
 |0=>rfl
 |n+1=>by rw[sM,List.length_append,sN n];rfl
theorem C3 {ls:aa}{i:Int}:∀ (m n:Nat),n<=m->∃ r,sM ls i m=sM ls i n++r
 |0,n,h=>⟨[],by rw[show n=0 from by omega];rfl⟩
 | m+1,n,h=>by
   by_cases c:n=m+1
   ·subst c;exact⟨[],by simp⟩
   ·obtain⟨r,e⟩:=C3 (ls:=ls) (i:=i) m n (by omega);exact⟨r++[ag (aR ls i 0) m 0],by rw[sM,e,List.append_assoc]⟩
theorem C4 {ls:aa}:∀ (m n:Nat),n<=m->∃ r,sO ls m=sO ls n++r
 |0,n,h=>⟨[],by rw[show n=0 from by omega];rfl⟩
 | m+1,n,h=>by
   by_cases c:n=m+1
   ·subst c;exact⟨[],by simp⟩
   ·obtain⟨r,e⟩:=C4 (ls:=ls) m n (by omega);exact⟨r++sM ls m (aR ls m 0).length,by rw[sO,e,List.append_assoc]⟩
theorem uN {ls:aa}{i k:Int}(h:0<=k):sM ls i (k+1).toNat=sM ls i k.toNat++[ag (aR ls i 0) k 0]:=by
 rw[show(k+1).toNat=k.toNat+1 from by omega,sM,Int.toNat_of_nonneg h]
theorem uO {ls:aa}{i:Int}(h:0<=i):sO ls (i+1).toNat=sO ls i.toNat++sM ls i (aR ls i 0).length:=by
 rw[show(i+1).toNat=i.toNat+1 from by omega,sO,Int.toNat_of_nonneg h]
structure LQ (ls:aa)(i:Int):Prop where
 ok:upto (Mg ls) i
 nd:(sO ls i.toNat).Nodup
 l:i<=4
 b:∀ x∈sO ls i.toNat,0<=x/\x<=511
 n:(sO ls i.toNat).length<=8*i.toNat
structure Oq (ls:aa)(i k:Int):Prop where
 ok:upto (Mg ls) i
 nd:(sO ls i.toNat++sM ls i k.toNat).Nodup
 l:i<=3
 s:(aR ls i 0).length<=8
 bk:upto (Kf ls i) k
 b:∀ x∈sO ls i.toNat++sM ls i k.toNat,0<=x/\x<=511
 n:(sO ls i.toNat).length<=8*i.toNat
section
variable {ls : aa} {i k : Int}
theorem O6 :LQ ls 0:=⟨bi,List.nodup_nil,by omega,(fun x hx=>by cases hx),Nat.zero_le _⟩
theorem O8 (h:LQ ls i)(i0:0<=i)(c:inR i 0 3=true)(s:(aR ls i 0).length<=8):Oq ls i 0:=
 ⟨h.ok,by simpa[sM]using h.nd,(bE.1 c).2,s,bi,by simpa[sM]using h.b,h.n⟩
theorem Kk (h:Oq ls i k)(k0:0<=k)(h1:inR (ag (aR ls i 0) k 0) 0 511=true)(h2:bF .rem .i64 (ag (aR ls i 0) k 0) (clsSz i)=0)(h3:ag (aR ls i 0) k 0∉sO ls i.toNat++sM ls i k.toNat):Oq ls i (k+1):=by
 refine⟨h.ok,?_,h.l,h.s,aV h.bk (by unfold Kf;rw[h1,decide_eq_true h2];rfl),?_,h.n⟩
 ·rw[uN k0, <-List.append_assoc];exact iu h.nd h3
 ·rw[uN k0, <-List.append_assoc];intro x hx;rcases List.mem_append.1 hx with q|q
  ·exact h.b x q
  ·simp at q;subst q;exact bE.1 h1
theorem Kh (h:Oq ls i k)(i0:0<=i)(k1:k<=((aR ls i 0).length:Int))(k2:((aR ls i 0).length:Int)<=k):LQ ls (i+1):=by
 have e:k.toNat=(aR ls i 0).length:=by omega
 have nd:=h.nd;have b:=h.b;have n:=h.n;have s:=h.s;have l:=h.l;rw[e, <-uO i0]at nd b;refine⟨aV h.ok (by unfold Mg;rw[decide_eq_true h.s,bB h.bk k2];rfl),nd,by omega,b,?_⟩;rw[uO i0,List.length_append,sN];omega
theorem yy (h:(ls.length:Int)≠4):caOk ls=false:=by unfold caOk;rw[decide_eq_false (by omega)];rfl
theorem Kg (i0:0<=i)(l:i<=3)(h:Mg ls i=false):caOk ls=false:=by unfold caOk;rw[bM (n:=4) i0 (by omega) h];simp
theorem FA (i0:0<=i)(h:8<(aR ls i 0).length)(l:i<=3):caOk ls=false:=Kg i0 l (by unfold Mg;rw[decide_eq_false (by omega)];rfl)
theorem yz (i0:0<=i)(l:i<=3)(k0:0<=k)(k1:k<(aR ls i 0).length)(h:Kf ls i k=false):caOk ls=false:=Kg i0 l (by unfold Mg;rw[bM k0 k1 h,Bool.and_false])
theorem Ki (h:inR (ag (aR ls i 0) k 0) 0 511=false):Kf ls i k=false:=by unfold Kf;rw[h];rfl
theorem Kj (h:bF .rem .i64 (ag (aR ls i 0) k 0) (clsSz i)≠0):Kf ls i k=false:=by unfold Kf;rw[decide_eq_false h,Bool.and_false]
theorem Fz (i0:0<=i)(l:i<=3)(k0:0<=k)(k1:k<(aR ls i 0).length)(h:ag (aR ls i 0) k 0∈sO ls i.toNat++sM ls i k.toNat):caOk ls=false:=by
 obtain⟨r,e⟩:=C4 (ls:=ls) 4 (i+1).toNat (by omega);obtain⟨r2,e2⟩:=C3 (ls:=ls) (i:=i) (aR ls i 0).length (k+1).toNat (by omega);rw[uO i0,e2,uN k0]at e;have:¬ (sO ls 4).Nodup:=dup (a:=sO ls i.toNat++sM ls i k.toNat) (b:=r2++r) (x:=ag (aR ls i 0) k 0) (by rw[e];simp only[List.append_assoc];rfl) h;unfold caOk;rw[decide_eq_false this];simp
theorem FB (h:LQ ls i)(h1:(ls.length:Int)=4)(i2:4<=i):caOk ls=true:=by
 have l:=h.l;have e:i=4:=by omega
 subst e;unfold caOk;rw[decide_eq_true (by omega),bB h.ok (by omega),decide_eq_true (p:=(sO ls 4).Nodup) h.nd];rfl
theorem Mh (h:LQ ls i)(i1:i<=ls.length)(i2:(ls.length:Int)<=i):decide ((ls.length:Int)=4)=caOk ls:=by
 by_cases c:(ls.length:Int)=4
 ·rw[FB h c (by omega)];exact decide_eq_true c
 ·rw[yy c];exact decide_eq_false c
end
structure O0 (ls:aa)(i:Int)(o:aa):Prop where
 p:LQ ls i
 e:o=eS (sO ls i.toNat)
structure Kb (ls:aa)(i k:Int)(o:aa):Prop where
 p:Oq ls i k
 e:o=eS (sO ls i.toNat++sM ls i k.toNat)
structure BD (ls:aa)(i:Int)(es:aa):Prop where
 p:LQ ls i
 s:lW es (sO ls i.toNat)
structure BE (ls:aa)(i k:Int)(es:aa):Prop where
 p:Oq ls i k
 s:lW es (sO ls i.toNat++sM ls i k.toNat)
section
variable {ls o es : aa} {i k : Int}
theorem U9 :O0 ls 0 []:=⟨O6,rfl⟩
theorem Vb (h:O0 ls i o)(i0:0<=i)(i1:i<4)(s:(aR ls i 0).length<=8):Kb ls i 0 o:=⟨O8 h.p i0 (bE.2 (by omega)) s,by rw[h.e];simp[sM]⟩
theorem R3 (h:Kb ls i k o)(k0:0<=k)(h1:inR (ag (aR ls i 0) k 0) 0 511=true)(h2:bF .rem .i64 (ag (aR ls i 0) k 0) (clsSz i)=0)(h3:hasB o (ag (aR ls i 0) k 0)=false):Kb ls i (k+1) (o++[[.i (ag (aR ls i 0) k 0)]]):=by
 have e:=h.e;rw[e]at h3;refine⟨Kk h.p k0 h1 h2 (sV h3),?_⟩;rw[uN k0, <-List.append_assoc,eH, <-e];rfl
theorem R2 (h:Kb ls i k o)(i0:0<=i)(k1:k<=((aR ls i 0).length:Int))(k2:((aR ls i 0).length:Int)<=k):O0 ls (i+1) o:=
 ⟨Kh h.p i0 k1 k2,by rw[uO i0,h.e,show k.toNat=(aR ls i 0).length from by omega]⟩
theorem N7 (h:Kb ls i k o)(i0:0<=i)(k0:0<=k)(k1:k<(aR ls i 0).length)(h3:hasB o (ag (aR ls i 0) k 0)=true):caOk ls=false:=by
 rw[h.e,lC]at h3;exact Fz i0 h.p.l k0 k1 h3
theorem N8 (h:Kb ls i k o)(k0:0<=k):o.length<=40+k.toNat/\Rw [tI] o:=by
 have n:=h.p.n;have l:=h.p.l;have s:=h.p.s;have q:o.length<=40+k.toNat:=by rw[h.e,bR,List.length_append,sN];omega
 refine⟨q,?_⟩;rw[h.e];have nd:=h.p.nd;refine pT (fun x hx=>by have:=h.p.b x hx;omega) ?_;rw[<-bR, <-h.e];have bd:k.toNat<=512\/512<k.toNat:=by omega
 rcases bd with bd|bd
 ·omega
 ·exfalso;have c:=List.Nodup.length_le_of_subset (l₁:=sO ls i.toNat++sM ls i k.toNat) (l₂:=(List.range 512).map fun j:Nat=>(j:Int)) nd (fun x hx=>by
   have b:=h.p.b x hx;rw[List.mem_map];exact⟨x.toNat,List.mem_range.2 (by omega),by omega⟩)
  rw[List.length_append,sN,List.length_map,List.length_range]at c;omega
theorem P5 :BD ls 0 []:=⟨O6,Cy⟩
theorem P6 (h:BD ls i es)(i0:0<=i)(c:inR i 0 3=true)(s:(aR ls i 0).length<=8):BE ls i 0 es:=⟨O8 h.p i0 c s,by simpa[sM]using h.s⟩
theorem M1 (h:BE ls i k es)(k0:0<=k)(h1:inR (ag (aR ls i 0) k 0) 0 511=true)(h2:bF .rem .i64 (ag (aR ls i 0) k 0) (clsSz i)=0)(h3:mgbI es (ag (aR ls i 0) k 0)=false):BE ls i (k+1) (jk es (ag (aR ls i 0) k 0) (.v (.bool true))):=by
 refine⟨Kk h.p k0 h1 h2 (fun m=>by rw[(h.s.at_ _).2 m]at h3;cases h3),?_⟩;rw[uN k0, <-List.append_assoc];exact td h.s
theorem M0 (h:BE ls i k es)(i0:0<=i)(k1:k<=((aR ls i 0).length:Int))(k2:((aR ls i 0).length:Int)<=k):BD ls (i+1) es:=
 ⟨Kh h.p i0 k1 k2,by have s:=h.s;rw[show k.toNat=(aR ls i 0).length from by omega]at s;rw[uO i0];exact s⟩
theorem I3 (h:BE ls i k es)(i0:0<=i)(k0:0<=k)(k1:k<(aR ls i 0).length)(h3:mgbI es (ag (aR ls i 0) k 0)=true):caOk ls=false:=Fz i0 h.p.l k0 k1 ((h.s.at_ _).1 h3)
theorem I1 (h:BD ls i es)(i0:0<=i)(s:8<(aR ls i 0).length)(i1:i<ls.length):caOk ls=false:=by
 by_cases c:(ls.length:Int)=4
 ·exact FA i0 s (by omega)
 ·exact yy c
theorem I2 (h:BD ls i es)(i0:0<=i)(c:inR i 0 3=false)(i1:i<ls.length):caOk ls=false:=by
 have:=qB.1 c;exact yy (by omega)
end
def E9 (cs:aa)(i:Int):Bool:=inR (ag cs i 0) 0 15&& !(decide (0<i)&&decide (ag cs i 0<=ag cs (i-1) 0))
def plOk (k m:Int)(cs:aa):Bool:=ce (E9 cs) cs.length&&(inR k 0 31&&(inR m 0 31&&decide (k≠m)))
def jbOk (k m:Int)(cs:aa)(ph nx:Int):Bool:=plOk k m cs&&(inR ph 0 5&&inR nx 0 cs.length)
section
variable {k m i : Int} {cs : aa}
theorem Hl (i0:0<=i)(i1:i<cs.length)(h:inR (ag cs i 0) 0 15=false):plOk k m cs=false:=by
 unfold plOk;rw[bM i0 i1 (by unfold E9;rw[h];rfl)];rfl
theorem Hm (i0:0<=i)(i1:i<cs.length)(h:0<i)(g:ag cs i 0<=ag cs (i-1) 0):plOk k m cs=false:=by
 unfold plOk;rw[bM i0 i1 (by unfold E9;rw[decide_eq_true h,decide_eq_true g];simp)];rfl
theorem DZ (h:inR (ag cs i 0) 0 15=true)(g:i<=0):E9 cs i=true:=by unfold E9;rw[h,decide_eq_false (by omega)];rfl
theorem D1 (h:inR (ag cs i 0) 0 15=true)(g:ag cs (i-1) 0<ag cs i 0):E9 cs i=true:=by
 unfold E9;rw[h,decide_eq_false (p:=ag cs i 0<=_) (by omega)];simp
theorem zk (h:upto (E9 cs) i)(g:(cs.length:Int)<=i):plOk k m cs=(inR k 0 31&&(inR m 0 31&&decide (k≠m))):=by unfold plOk;rw[bB h g];rfl
end
end Go.V
namespace Go.V
theorem Kx {sp lg:aa}{a:Int}(h:layOk sp lg=true):dzK sp lg a=dnK sp lg a:=by unfold dzK;rw[if_pos h]
theorem Ky {sp lg:aa}{a:Int}(h:layOk sp lg=true):dzI sp lg a=dnI sp lg a:=by unfold dzI;rw[if_pos h]
theorem Kz {sp lg:aa}{a:Int}(h:layOk sp lg=true):dzO sp lg a=dnO sp lg a:=by unfold dzO;rw[if_pos h]
theorem Ax {sp lg:aa}{a:Int}(h:dnK sp lg a=1):0<=dnI sp lg a/\dnI sp lg a<sp.length:=by
 unfold dnK at h;by_cases c:0<=gn sp a
 ·unfold dnI;rw[if_pos c];rcases nQ (p:=xh sp a) (n:=sp.length)with q|q
  ·have:gn sp a= -1:=q;omega
  ·exact q
 ·rw[if_neg c]at h;by_cases d:0<=lz lg a
  ·rw[if_pos d]at h;omega
  ·rw[if_neg d]at h;omega
theorem Ks {sp lg:aa}{a:Int}(h:dnK sp lg a=3):0<=dnI sp lg a/\dnI sp lg a<lg.length:=by
 unfold dnK at h;by_cases c:0<=gn sp a
 ·rw[if_pos c]at h;split at h<;>omega
 ·rw[if_neg c]at h;by_cases d:0<=lz lg a
  ·unfold dnI;rw[if_neg c,if_pos d];rcases nQ (p:=xd lg a) (n:=lg.length)with q|q
   ·have:lz lg a= -1:=q;omega
   ·exact q
  ·rw[if_neg d]at h;omega
def B6 (os:aa)(x j:Int):Bool:=eqB (ag os j 0) x
def oiI (os:aa)(x:Int):Int:=cE (B6 os x) os.length
def oiB (os:aa)(x:Int):Bool:=decide (0<=oiI os x)
def okO (sp lg:aa)(a s:Int):Bool:=decide (dnO sp lg a=0)&&((decide (dnK sp lg a=1)&&decide (ag sp (dnI sp lg a) 1=clsOf s))||(decide (dnK sp lg a=3)&&decide (ag lg (dnI sp lg a) 2=s)))
def wi (sp lg os cs:aa)(nx i:Int):Bool:=
 !(decide (0<i)&&decide (ag os i 1<=ag os (i-1) 1))&&(inR (ag os i 0) 1 (bF .sub .i64 nx 1)&&(inR (ag os i 3) 0 (cs.length-1:Int)&&(!oiB (os.take i.toNat) (ag os i 0)&&okO sp lg (ag os i 1) (ag os i 2))))
def objOk (sp lg os cs:aa)(nx:Int):Bool:=ce (wi sp lg os cs nx) os.length
section
variable {sp lg os cs : aa} {nx i k : Int}
theorem kf (i0:0<=i)(i1:i<os.length)(h:wi sp lg os cs nx i=false):objOk sp lg os cs nx=false:=bM i0 i1 h
theorem G7 (h:upto (wi sp lg os cs nx) i)(g:(os.length:Int)<=i):objOk sp lg os cs nx=true:=bB h g
theorem K7 (h:0<i)(g:ag os i 1<=ag os (i-1) 1):wi sp lg os cs nx i=false:=by unfold wi;rw[decide_eq_true h,decide_eq_true g];rfl
theorem K8 (h:inR (ag os i 0) 1 (bF .sub .i64 nx 1)=false):wi sp lg os cs nx i=false:=by unfold wi;rw[h];simp
theorem K9 (h:inR (ag os i 3) 0 (cs.length-1:Int)=false):wi sp lg os cs nx i=false:=by unfold wi;rw[h];simp
theorem La (h:oiB (os.take i.toNat) (ag os i 0)=true):wi sp lg os cs nx i=false:=by unfold wi;rw[h];simp
theorem DR (h:okO sp lg (ag os i 1) (ag os i 2)=false):wi sp lg os cs nx i=false:=by unfold wi;rw[h];simp
theorem Jm (h1:i<=0\/ag os (i-1) 1<ag os i 1)(h2:inR (ag os i 0) 1 (bF .sub .i64 nx 1)=true)(h3:inR (ag os i 3) 0 (cs.length-1:Int)=true)(h4:oiB (os.take i.toNat) (ag os i 0)=false)(h5:okO sp lg (ag os i 1) (ag os i 2)=true):wi sp lg os cs nx i=true:=by
 unfold wi;rw[h2,h3,h4,h5];rcases h1 with h|h
 ·rw[decide_eq_false (p:=0<i) (by omega)];rfl
 ·rw[decide_eq_false (p:=ag os i 1<=ag os (i-1) 1) (by omega)];simp
theorem Lb {a s:Int}(h:dnO sp lg a≠0):okO sp lg a s=false:=by unfold okO;rw[decide_eq_false h];rfl
theorem Q1 {a s:Int}(h1:dnK sp lg a≠1\/ag sp (dnI sp lg a) 1≠clsOf s)(h2:dnK sp lg a≠3\/ag lg (dnI sp lg a) 2≠s):okO sp lg a s=false:=by
 unfold okO;rcases h1 with h|h<;>rcases h2 with g|g<;>simp[h,g]
theorem Lc {a s:Int}(h0:dnO sp lg a=0)(h1:dnK sp lg a=1)(h2:ag sp (dnI sp lg a) 1=clsOf s):okO sp lg a s=true:=by unfold okO;rw[decide_eq_true h0,decide_eq_true h1,decide_eq_true h2];rfl
theorem Ld {a s:Int}(h0:dnO sp lg a=0)(h1:dnK sp lg a=3)(h2:ag lg (dnI sp lg a) 2=s):okO sp lg a s=true:=by unfold okO;rw[decide_eq_true h0,decide_eq_true h1,decide_eq_true h2];simp
theorem NL (k0:0<=k)(k1:k<i)(i1:i<os.length)(h:ag os k 0=ag os i 0):oiB (os.take i.toNat) (ag os i 0)=true:=by
 unfold oiB oiI;rw[decide_eq_true_eq,xG];refine⟨k.toNat,by rw[List.length_take];omega,?_⟩;unfold B6;rw[Int.toNat_of_nonneg k0,sU (by omega)];exact nM h
theorem QZ {x:Int}(h:upto (fun j=> !eqB (ag os j 0) x) k)(k1:i<=k)(i0:0<=i):oiB (os.take i.toNat) x=false:=by
 unfold oiB oiI;refine decide_eq_false (fun c=>?_);obtain⟨m,m1,m2⟩:=xG.1 c;rw[List.length_take]at m1;have q:=h m (by omega) (by omega);unfold B6 at m2;rw[sU (by omega)]at m2;simp only at q;rw[m2]at q;cases q
end
end Go.V
namespace Go.V
def Tl (es:aa):Prop:=∀ e∈es,∃ k b:Int,e=[.i k,.i b]
theorem qD {k b:Int}{es:aa}{n:Int}:dm ([.i k,.i b]::es) n=if k=n then some (0,.int .i64 b)else(dm es n).map fun p=>(p.1+1,p.2):=rfl
theorem kR {k b:Int}{es:aa}{n:Int}:fv ([.i k,.i b]::es) n=if k=n then b else fv es n:=by
 unfold fv;rw[qD];by_cases c:k=n
 ·rw[if_pos c,if_pos c]
 ·rw[if_neg c,if_neg c];cases dm es n with
  |none=>rfl
  |some p=>obtain⟨j,v⟩:=p;cases v<;>rfl
theorem GZ {k b x:Int}{es:aa}{n:Int}:jk ([.i k,.i b]::es) n (.i x)=if k=n then[.i n,.i x]::es else[.i k,.i b]::jk es n (.i x):=by
 unfold jk;rw[qD];by_cases c:k=n
 ·rw[if_pos c,if_pos c];rfl
 ·rw[if_neg c,if_neg c];cases dm es n with
  |none=>rfl
  |some p=>rfl
theorem QQ {x n:Int}:∀ {es:aa},Tl es->Tl (jk es n (.i x))/\∀ m,fv (jk es n (.i x)) m=if m=n then x else fv es m
 | [],_=>by
   refine⟨fun e he=>?_,fun m=>?_⟩
   ·have:e=[.i n,.i x]:=by simpa[jk,dm]using he
    exact⟨n,x,this⟩
   ·show fv [[.i n,.i x]] m=_;rw[kR];by_cases c:m=n
    ·rw[if_pos c.symm,if_pos c]
    ·rw[if_neg (fun e=>c e.symm),if_neg c]
 | e::es,h=>by
   obtain⟨k,b,rfl⟩:=h e (by simp);have h':Tl es:=fun e he=>h e (by simp[he])
   obtain⟨a1,a2⟩:=QQ (x:=x) (n:=n) h';rw[GZ];by_cases c:k=n
   ·rw[if_pos c];refine⟨fun e he=>?_,fun m=>?_⟩
    ·rcases List.mem_cons.1 he with rfl|he
     ·exact⟨n,x,rfl⟩
     ·exact h' e he
    ·rw[kR,kR];by_cases d:m=n
     ·rw[if_pos d.symm,if_pos d]
     ·rw[if_neg (fun e=>d e.symm),if_neg d,if_neg (fun e=>d (by rw[<-e,c]))]
   ·rw[if_neg c];refine⟨fun e he=>?_,fun m=>?_⟩
    ·rcases List.mem_cons.1 he with rfl|he
     ·exact⟨k,b,rfl⟩
     ·exact a1 e he
    ·rw[kR,kR,a2 m];by_cases d:k=m
     ·rw[if_pos d,if_pos d,if_neg (fun e=>c (d.trans e))]
     ·rw[if_neg d,if_neg d]
def huI (es:aa)(a:Int):aa:=jk es a (.i (bF .add .i64 (fv es a) 1))
structure yh (es:aa)(l:List Int):Prop where
 wf:Tl es
 c:∀ m,fv es m=(l.count m:Int)
theorem TE :yh [] []:=⟨(fun e he=>by cases he),fun m=>rfl⟩
theorem C7 {es:aa}{l:List Int}{a:Int}(h:yh es l)(hl:l.length<=1099511627776):yh (huI es a) (l++[a]):=by
 have q:=QQ (x:=bF .add .i64 (fv es a) 1) (n:=a) h.wf;refine⟨q.1,fun m=>?_⟩;show fv (jk es a _) m=_;have b:l.count a<=l.length:=List.count_le_length;have e:=h.c a;rw[q.2 m,List.count_append,show bF .add .i64 (fv es a) 1=fv es a+1 from bc (by omega)];by_cases c:m=a
 ·subst c;rw[if_pos rfl,e];simp
 ·rw[if_neg c,h.c m];have:[a].count m=0:=List.count_eq_zero.2 (by simpa using c);rw[this];rfl
def gU (l:aa)(f:Nat):Nat->List Int
 |0=>[]
 |n+1=>gU l f n++[ag l n f]
def wW (ls:aa):Nat->List Int
 |0=>[]
 |n+1=>wW ls n++gU (aR ls n 0) 0 (aR ls n 0).length
def oM (cs:aa):Nat->List Int
 |0=>[]
 |n+1=>oM cs n++wW (aR cs n 0) (aR cs n 0).length
theorem cT {l:aa}{f:Nat}:∀ n,(gU l f n).length=n
 |0=>rfl
 |n+1=>by rw[gU,List.length_append,cT n];rfl
theorem kP {l:aa}{f:Nat}{i:Int}(h:0<=i):gU l f (i+1).toNat=gU l f i.toNat++[ag l i f]:=by
 rw[show(i+1).toNat=i.toNat+1 from by omega,gU,Int.toNat_of_nonneg h]
theorem FH {l:aa}{i:Int}(h:0<=i):wW l (i+1).toNat=wW l i.toNat++gU (aR l i 0) 0 (aR l i 0).length:=by
 rw[show(i+1).toNat=i.toNat+1 from by omega,wW,Int.toNat_of_nonneg h]
theorem FF {l:aa}{i:Int}(h:0<=i):oM l (i+1).toNat=oM l i.toNat++wW (aR l i 0) (aR l i 0).length:=by
 rw[show(i+1).toNat=i.toNat+1 from by omega,oM,Int.toNat_of_nonneg h]
theorem fE {l:aa}{f:Nat}{x:Int}:∀ {n},x∈gU l f n↔∃ k:Nat,k<n/\x=ag l k f
 |0=>⟨(fun h=>by cases h),fun⟨k,h,_⟩=>absurd h (Nat.not_lt_zero _)⟩
 | n+1=>by
   rw[gU,List.mem_append,fE,List.mem_singleton]
   constructor
   ·rintro(⟨k,h,e⟩|e)
    ·exact⟨k,by omega,e⟩
    ·exact⟨n,by omega,e⟩
   ·rintro⟨k,h,e⟩;by_cases c:k=n
    ·subst c;exact .inr e
    ·exact .inl ⟨k,by omega,e⟩
theorem sY {ls:aa}{x:Int}:∀ {n},x∈wW ls n↔∃ k:Nat,k<n/\x∈gU (aR ls k 0) 0 (aR ls k 0).length
 |0=>⟨(fun h=>by cases h),fun⟨k,h,_⟩=>absurd h (Nat.not_lt_zero _)⟩
 | n+1=>by
   rw[wW,List.mem_append,sY]
   constructor
   ·rintro(⟨k,h,e⟩|e)
    ·exact⟨k,by omega,e⟩
    ·exact⟨n,by omega,e⟩
   ·rintro⟨k,h,e⟩;by_cases c:k=n
    ·subst c;exact .inr e
    ·exact .inl ⟨k,by omega,e⟩
theorem sX {cs:aa}{x:Int}:∀ {n},x∈oM cs n↔∃ k:Nat,k<n/\x∈wW (aR cs k 0) (aR cs k 0).length
 |0=>⟨(fun h=>by cases h),fun⟨k,h,_⟩=>absurd h (Nat.not_lt_zero _)⟩
 | n+1=>by
   rw[oM,List.mem_append,sX]
   constructor
   ·rintro(⟨k,h,e⟩|e)
    ·exact⟨k,by omega,e⟩
    ·exact⟨n,by omega,e⟩
   ·rintro⟨k,h,e⟩;by_cases c:k=n
    ·subst c;exact .inr e
    ·exact .inl ⟨k,by omega,e⟩
theorem yB {ls:aa}:∀ n,n<=ls.length->(wW ls n).length<=bD (ls.take n)
 |0,_=>Nat.zero_le _
 | n+1,h=>by
   have q:=yB n (by omega:n<=ls.length);have c:=u9 (es:=ls) (n:=n) (j:=0) (by omega);unfold ah at c;rw[wW,List.length_append,cT,jr (by omega)];omega
theorem ip {cs:aa}:∀ n,n<=cs.length->(oM cs n).length<=bD (cs.take n)
 |0,_=>Nat.zero_le _
 | n+1,h=>by
   have q:=ip n (by omega:n<=cs.length);have c:=u9 (es:=cs) (n:=n) (j:=0) (by omega);have d:=yB (ls:=aR cs n 0) (aR cs n 0).length (Nat.le_refl _);rw[List.take_length]at d;unfold ah at c;rw[oM,List.length_append,jr (by omega)];omega
theorem IK {cs:aa}{i k:Int}(i0:0<=i)(i1:i<cs.length)(k1:k<=(aR cs i 0).length):(oM cs i.toNat++wW (aR cs i 0) k.toNat).length+bD ((aR cs i 0).drop k.toNat)<=bD cs:=by
 have q:=ip (cs:=cs) i.toNat (by omega);have c:=As (es:=cs) (n:=i.toNat+1);have d:=jr (es:=cs) (n:=i.toNat) (by omega);have e:=u9 (es:=cs) (n:=i.toNat) (j:=0) (by omega);rw[Int.toNat_of_nonneg i0]at e;have f:=yB (ls:=aR cs i 0) k.toNat (by omega);have g:bD (aR cs i 0)=bD ((aR cs i 0).take k.toNat)+bD ((aR cs i 0).drop k.toNat):=by rw[<-ea,List.take_append_drop]
 rw[List.length_append];unfold ah at e;omega
theorem C5 {cs:aa}{i k j:Int}(i0:0<=i)(i1:i<cs.length)(k0:0<=k)(k1:k<(aR cs i 0).length)(j0:0<=j)(j1:j<=(aR (aR cs i 0) k 0).length):(oM cs i.toNat++wW (aR cs i 0) k.toNat++gU (aR (aR cs i 0) k 0) 0 j.toNat).length<=bD cs:=by
 have q:=IK i0 i1 (by omega:k<=(aR cs i 0).length);have e:=u9 (es:=aR cs i 0) (n:=k.toNat) (j:=0) (by omega);rw[Int.toNat_of_nonneg k0]at e;have d:cI ((aR cs i 0).getD k.toNat [])<=bD ((aR cs i 0).drop k.toNat):=by
  rw[List.drop_eq_getElem_cons (by omega)];rw[List.getD_eq_getElem?_getD,List.getElem?_eq_getElem (by omega)];simp[bD]
 rw[List.length_append,cT];unfold ah at e;omega
def hlB (sp lg:aa)(a k:Int):Bool:=decide (dnK sp lg a=1)&&(decide (dnO sp lg a=0)&&(decide (k<0)||decide (ag sp (dnI sp lg a) 1=k)))
def jA (sp lg l:aa)(k j:Int):Bool:=hlB sp lg (ag l j 0) k
def kA (sp lg ls:aa)(k:Int):Bool:=ce (jA sp lg (aR ls k 0) k) (aR ls k 0).length
def iA (sp lg cs:aa)(i:Int):Bool:=ce (kA sp lg (aR cs i 0)) (aR cs i 0).length
def qA (sp lg qs:aa)(i:Int):Bool:=hlB sp lg (ag qs i 0) (ag qs i 1)
def sA (qs:aa)(c i:Int):Bool:=decide (ag qs i 2<=c)
def Cq (sp lg qs:aa)(c i:Int):Bool:=qA sp lg qs i&&sA qs c i
def F1 (os cs qs fl:aa):List Int:=oM cs cs.length++gU qs 0 qs.length++gU fl 0 fl.length++gU os 1 os.length
def BX (os cs qs fl:aa):List Int:=gU os 1 os.length++oM cs cs.length++gU qs 0 qs.length++gU fl 0 fl.length
def Iw (l:List Int)(lv:aa)(i:Int):Bool:=decide (l.count (ag lv i 0)=1)
def hoI (sp lg os cs b x qs:aa)(c:Int):Bool:=ce (iA sp lg cs) cs.length&&(ce (Cq sp lg qs c) qs.length&&(ce (jA sp lg (ifL b x) (-1)) (ifL b x).length&&ce (Iw (F1 os cs qs (ifL b x)) (laL sp lg)) (laL sp lg).length))
def hoS (sp lg os cs b x qs:aa):Bool:=ce (iA sp lg cs) cs.length&&(ce (qA sp lg qs) qs.length&&(ce (jA sp lg (ifL b x) (-1)) (ifL b x).length&&(decide ((BX os cs qs (ifL b x)).Nodup)&&decide ((BX os cs qs (ifL b x)).length=(laL sp lg).length))))
section
variable {sp lg os cs b x qs fl es : aa} {i k j c : Int}
theorem P1 (k0:0<=k)(k1:k<(aR cs i 0).length)(j0:0<=j)(j1:j<(aR (aR cs i 0) k 0).length)(h:hlB sp lg (ag (aR (aR cs i 0) k 0) j 0) k=false):iA sp lg cs i=false:=
 bM k0 k1 (bM (p:=jA sp lg (aR (aR cs i 0) k 0) k) j0 j1 h)
theorem MF (i0:0<=i)(i1:i<cs.length)(h:iA sp lg cs i=false):hoI sp lg os cs b x qs c=false:=by unfold hoI;rw[bM i0 i1 h];rfl
theorem F2 (i0:0<=i)(i1:i<qs.length)(h:Cq sp lg qs c i=false):hoI sp lg os cs b x qs c=false:=by unfold hoI;rw[bM i0 i1 h];simp
theorem MG (i0:0<=i)(i1:i<(ifL b x).length)(h:hlB sp lg (ag (ifL b x) i 0) (-1)=false):hoI sp lg os cs b x qs c=false:=by unfold hoI;rw[bM (p:=jA sp lg (ifL b x) (-1)) i0 i1 h];simp
theorem MH (i0:0<=i)(i1:i<(laL sp lg).length)(h:Iw (F1 os cs qs (ifL b x)) (laL sp lg) i=false):hoI sp lg os cs b x qs c=false:=by unfold hoI;rw[bM i0 i1 h];simp
theorem MI (i0:0<=i)(i1:i<cs.length)(h:iA sp lg cs i=false):hoS sp lg os cs b x qs=false:=by unfold hoS;rw[bM i0 i1 h];rfl
theorem MJ (i0:0<=i)(i1:i<qs.length)(h:qA sp lg qs i=false):hoS sp lg os cs b x qs=false:=by unfold hoS;rw[bM i0 i1 h];simp
theorem ML (i0:0<=i)(i1:i<(ifL b x).length)(h:hlB sp lg (ag (ifL b x) i 0) (-1)=false):hoS sp lg os cs b x qs=false:=by unfold hoS;rw[bM (p:=jA sp lg (ifL b x) (-1)) i0 i1 h];simp
theorem RA (h:hlB sp lg (ag qs i 0) (ag qs i 1)=false):Cq sp lg qs c i=false:=by unfold Cq qA;rw[h];rfl
theorem RB (h:c<ag qs i 2):Cq sp lg qs c i=false:=by unfold Cq sA;rw[decide_eq_false (by omega),Bool.and_false]
theorem UP (h:hlB sp lg (ag qs i 0) (ag qs i 1)=true)(g:ag qs i 2<=c):Cq sp lg qs c i=true:=by unfold Cq qA sA;rw[h,decide_eq_true g];rfl
structure Ot (sp lg cs:aa)(i:Int)(es:aa):Prop where
 ok:upto (iA sp lg cs) i
 c:yh es (oM cs i.toNat)
structure Ov (sp lg cs:aa)(i k:Int)(es:aa):Prop where
 ok:upto (iA sp lg cs) i
 ok2:upto (kA sp lg (aR cs i 0)) k
 c:yh es (oM cs i.toNat++wW (aR cs i 0) k.toNat)
structure Ou (sp lg cs:aa)(i k j:Int)(es:aa):Prop where
 ok:upto (iA sp lg cs) i
 ok2:upto (kA sp lg (aR cs i 0)) k
 ok3:upto (jA sp lg (aR (aR cs i 0) k 0) k) j
 c:yh es (oM cs i.toNat++wW (aR cs i 0) k.toNat++gU (aR (aR cs i 0) k 0) 0 j.toNat)
structure Ow (sp lg cs qs:aa)(t j:Int)(es:aa):Prop where
 ok:ce (iA sp lg cs) cs.length=true
 ok2:upto (Cq sp lg qs t) j
 c:yh es (oM cs cs.length++gU qs 0 j.toNat)
structure Or (sp lg cs qs fl:aa)(t j:Int)(es:aa):Prop where
 ok:ce (iA sp lg cs) cs.length=true
 ok2:ce (Cq sp lg qs t) qs.length=true
 ok3:upto (jA sp lg fl (-1)) j
 c:yh es (oM cs cs.length++gU qs 0 qs.length++gU fl 0 j.toNat)
structure LR (sp lg os cs qs fl:aa)(t j:Int)(es:aa):Prop where
 ok:ce (iA sp lg cs) cs.length=true
 ok2:ce (Cq sp lg qs t) qs.length=true
 ok3:ce (jA sp lg fl (-1)) fl.length=true
 c:yh es (oM cs cs.length++gU qs 0 qs.length++gU fl 0 fl.length++gU os 1 j.toNat)
theorem TX :Ot sp lg cs 0 []:=⟨bi,TE⟩
theorem TZ (h:Ot sp lg cs i es):Ov sp lg cs i 0 es:=⟨h.ok,bi,by simpa[wW]using h.c⟩
theorem TY (h:Ov sp lg cs i k es):Ou sp lg cs i k 0 es:=⟨h.ok,h.ok2,bi,by simpa[gU]using h.c⟩
theorem PE (h:Ou sp lg cs i k j es)(i0:0<=i)(i1:i<cs.length)(k0:0<=k)(k1:k<(aR cs i 0).length)(j0:0<=j)(j1:j<(aR (aR cs i 0) k 0).length)(hc:ah cs<=1073741824)(hh:hlB sp lg (ag (aR (aR cs i 0) k 0) j 0) k=true):
 Ou sp lg cs i k (j+1) (huI es (ag (aR (aR cs i 0) k 0) j 0)):=by
 have l:=C5 (cs:=cs) i0 i1 k0 k1 j0 (by omega);unfold ah at hc;exact⟨h.ok,h.ok2,aV h.ok3 hh,by rw[kP j0, <-List.append_assoc];exact C7 h.c (by omega)⟩
theorem PF (h:Ou sp lg cs i k j es)(k0:0<=k)(j1:j<=((aR (aR cs i 0) k 0).length:Int))(j2:((aR (aR cs i 0) k 0).length:Int)<=j):Ov sp lg cs i (k+1) es:=by
 refine⟨h.ok,aV h.ok2 (bB h.ok3 j2),?_⟩;have c:=h.c;rw[show j.toNat=(aR (aR cs i 0) k 0).length from by omega,List.append_assoc, <-FH k0]at c;exact c
theorem PD (h:Ov sp lg cs i k es)(i0:0<=i)(k1:k<=((aR cs i 0).length:Int))(k2:((aR cs i 0).length:Int)<=k):Ot sp lg cs (i+1) es:=by
 refine⟨aV h.ok (bB h.ok2 k2),?_⟩;have c:=h.c;rw[show k.toNat=(aR cs i 0).length from by omega, <-FF i0]at c;exact c
theorem T9 (h:Ot sp lg cs i es)(i1:i<=cs.length)(i2:(cs.length:Int)<=i):Ow sp lg cs qs c 0 es:=
 ⟨bB h.ok i2,bi,by have c:=h.c;rw[show i.toNat=cs.length from by omega]at c;simpa[gU]using c⟩
theorem PZ (h:Ow sp lg cs qs c j es)(j0:0<=j)(j1:j<qs.length)(hc:ah cs<=1073741824)(hq:qs.length<=1073741824)(hh:Cq sp lg qs c j=true):Ow sp lg cs qs c (j+1) (huI es (ag qs j 0)):=by
 have l:=ip (cs:=cs) cs.length (Nat.le_refl _);rw[List.take_length]at l;unfold ah at hc;refine⟨h.ok,aV h.ok2 hh,?_⟩;rw[kP j0, <-List.append_assoc];refine C7 h.c ?_;rw[List.length_append,cT];omega
theorem TW (h:Ow sp lg cs qs c i es)(i1:i<=qs.length)(i2:(qs.length:Int)<=i):Or sp lg cs qs fl c 0 es:=
 ⟨h.ok,bB h.ok2 i2,bi,by have c:=h.c;rw[show i.toNat=qs.length from by omega]at c;simpa[gU]using c⟩
theorem PC (h:Or sp lg cs qs fl c j es)(j0:0<=j)(j1:j<fl.length)(hc:ah cs<=1073741824)(hq:qs.length<=1073741824)(hf:fl.length<=30)(hh:hlB sp lg (ag fl j 0) (-1)=true):Or sp lg cs qs fl c (j+1) (huI es (ag fl j 0)):=by
 have l:=ip (cs:=cs) cs.length (Nat.le_refl _);rw[List.take_length]at l;unfold ah at hc;refine⟨h.ok,h.ok2,aV h.ok3 hh,?_⟩;rw[kP j0, <-List.append_assoc];refine C7 h.c ?_;rw[List.length_append,List.length_append,cT,cT];omega
theorem T5 (h:Or sp lg cs qs fl c i es)(i1:i<=fl.length)(i2:(fl.length:Int)<=i):LR sp lg os cs qs fl c 0 es:=
 ⟨h.ok,h.ok2,bB h.ok3 i2,by have c:=h.c;rw[show i.toNat=fl.length from by omega]at c;simpa[gU]using c⟩
theorem PI (h:LR sp lg os cs qs fl c j es)(j0:0<=j)(j1:j<os.length)(hc:ah cs<=1073741824)(hq:qs.length<=1073741824)(ho:os.length<=1073741824)(hf:fl.length<=30):LR sp lg os cs qs fl c (j+1) (huI es (ag os j 1)):=by
 have l:=ip (cs:=cs) cs.length (Nat.le_refl _);rw[List.take_length]at l;unfold ah at hc;refine⟨h.ok,h.ok2,h.ok3,?_⟩;rw[kP j0, <-List.append_assoc];refine C7 h.c ?_;rw[List.length_append,List.length_append,List.length_append,cT,cT,cT];omega
structure J6 (sp lg os cs qs fl:aa)(t i:Int)(es:aa):Prop where
 p:LR sp lg os cs qs fl t os.length es
 ok:upto (Iw (F1 os cs qs fl) (laL sp lg)) i
theorem T0 (h:LR sp lg os cs qs fl c i es)(i1:i<=os.length)(i2:(os.length:Int)<=i):J6 sp lg os cs qs fl c 0 es:=⟨by rw[show(os.length:Int)=i from by omega];exact h,bi⟩
theorem PG (h:J6 sp lg os cs qs fl c i es)(m:Int):fv es m=((F1 os cs qs fl).count m:Int):=by
 have q:=h.p.c.c m;rw[Int.toNat_natCast]at q;exact q
theorem PH (h:J6 sp lg os cs qs fl c i es)(e:fv es (ag (laL sp lg) i 0)=1):J6 sp lg os cs qs fl c (i+1) es:=
 ⟨h.p,aV h.ok (by unfold Iw;rw[PG h]at e;exact decide_eq_true (by omega))⟩
theorem T4 (h:J6 sp lg os cs qs (ifL b x) c i es)(i0:0<=i)(i1:i<(laL sp lg).length)(e:fv es (ag (laL sp lg) i 0)≠1):hoI sp lg os cs b x qs c=false:=
 MH i0 i1 (by unfold Iw;rw[PG h]at e;exact decide_eq_false (by omega))
theorem ME (h:J6 sp lg os cs qs (ifL b x) c i es)(i2:((laL sp lg).length:Int)<=i):hoI sp lg os cs b x qs c=true:=by
 unfold hoI;rw[h.p.ok,h.p.ok2,h.p.ok3,bB h.ok i2];rfl
end
end Go.V
namespace Go.V
structure L2 (os:aa)(i:Int)(o:aa):Prop where
 e:o=eS (gU os 1 i.toNat)
structure OD (sp lg os cs:aa)(i:Int)(o:aa):Prop where
 ok:upto (iA sp lg cs) i
 e:o=eS (gU os 1 os.length++oM cs i.toNat)
structure OE (sp lg os cs:aa)(i k:Int)(o:aa):Prop where
 ok:upto (iA sp lg cs) i
 ok2:upto (kA sp lg (aR cs i 0)) k
 e:o=eS (gU os 1 os.length++(oM cs i.toNat++wW (aR cs i 0) k.toNat))
structure L3 (sp lg os cs:aa)(i k j:Int)(o:aa):Prop where
 ok:upto (iA sp lg cs) i
 ok2:upto (kA sp lg (aR cs i 0)) k
 ok3:upto (jA sp lg (aR (aR cs i 0) k 0) k) j
 e:o=eS (gU os 1 os.length++(oM cs i.toNat++wW (aR cs i 0) k.toNat++gU (aR (aR cs i 0) k 0) 0 j.toNat))
structure L4 (sp lg os cs qs:aa)(j:Int)(o:aa):Prop where
 ok:ce (iA sp lg cs) cs.length=true
 ok2:upto (qA sp lg qs) j
 e:o=eS (gU os 1 os.length++oM cs cs.length++gU qs 0 j.toNat)
structure L5 (sp lg os cs qs fl:aa)(j:Int)(o:aa):Prop where
 ok:ce (iA sp lg cs) cs.length=true
 ok2:ce (qA sp lg qs) qs.length=true
 ok3:upto (jA sp lg fl (-1)) j
 e:o=eS (gU os 1 os.length++oM cs cs.length++gU qs 0 qs.length++gU fl 0 j.toNat)
structure Iu (sp lg os cs qs fl:aa)(j:Int)(o:aa):Prop where
 ok:ce (iA sp lg cs) cs.length=true
 ok2:ce (qA sp lg qs) qs.length=true
 ok3:ce (jA sp lg fl (-1)) fl.length=true
 e:o=eS (BX os cs qs fl)
 nd:((BX os cs qs fl).take j.toNat).Nodup
section
variable {sp lg os cs b x qs fl o : aa} {i k j : Int}
theorem UU :L2 os 0 []:=⟨rfl⟩
theorem UV (h:L2 os i o):o.length=i.toNat:=by rw[h.e,bR,cT]
theorem RP (h:L2 os i o)(i0:0<=i):L2 os (i+1) (o++[[.i (ag os i 1)]]):=⟨by rw[kP i0,eH, <-h.e];rfl⟩
theorem UW (h:L2 os i o)(i1:i<=os.length)(i2:(os.length:Int)<=i):OD sp lg os cs 0 o:=⟨bi,by rw[h.e,show i.toNat=os.length from by omega];simp[oM]⟩
theorem UX (h:OD sp lg os cs i o):OE sp lg os cs i 0 o:=⟨h.ok,bi,by rw[h.e];simp[wW]⟩
theorem UY (h:OE sp lg os cs i k o):L3 sp lg os cs i k 0 o:=⟨h.ok,h.ok2,bi,by rw[h.e];simp[gU]⟩
theorem UZ (h:L3 sp lg os cs i k j o)(i0:0<=i)(i1:i<cs.length)(k0:0<=k)(k1:k<(aR cs i 0).length)(j0:0<=j)(j1:j<=(aR (aR cs i 0) k 0).length)(hc:ah cs<=1073741824)(ho:os.length<=1073741824):o.length<=2147483648:=by
 have l:=C5 (cs:=cs) i0 i1 k0 k1 j0 j1;unfold ah at hc;rw[h.e,bR,List.length_append,cT];omega
theorem RS (h:L3 sp lg os cs i k j o)(j0:0<=j)(hh:hlB sp lg (ag (aR (aR cs i 0) k 0) j 0) k=true):L3 sp lg os cs i k (j+1) (o++[[.i (ag (aR (aR cs i 0) k 0) j 0)]]):=
 ⟨h.ok,h.ok2,aV h.ok3 hh,by rw[kP j0, <-List.append_assoc (oM cs i.toNat++wW (aR cs i 0) k.toNat), <-List.append_assoc (gU os 1 os.length),eH, <-h.e];rfl⟩
theorem RR (h:L3 sp lg os cs i k j o)(k0:0<=k)(j1:j<=((aR (aR cs i 0) k 0).length:Int))(j2:((aR (aR cs i 0) k 0).length:Int)<=j):OE sp lg os cs i (k+1) o:=by
 refine⟨h.ok,aV h.ok2 (bB h.ok3 j2),?_⟩;rw[h.e,show j.toNat=(aR (aR cs i 0) k 0).length from by omega,List.append_assoc (oM cs i.toNat), <-FH k0]
theorem RQ (h:OE sp lg os cs i k o)(i0:0<=i)(k1:k<=((aR cs i 0).length:Int))(k2:((aR cs i 0).length:Int)<=k):OD sp lg os cs (i+1) o:=by
 refine⟨aV h.ok (bB h.ok2 k2),?_⟩;rw[h.e,show k.toNat=(aR cs i 0).length from by omega, <-FF i0]
theorem U0 (h:OD sp lg os cs i o)(i1:i<=cs.length)(i2:(cs.length:Int)<=i):L4 sp lg os cs qs 0 o:=⟨bB h.ok i2,bi,by rw[h.e,show i.toNat=cs.length from by omega];simp[gU]⟩
theorem U2 (h:L4 sp lg os cs qs j o)(j1:j<=qs.length)(hc:ah cs<=1073741824)(ho:os.length<=1073741824)(hq:qs.length<=1073741824):o.length<=4294967296:=by
 have l:=ip (cs:=cs) cs.length (Nat.le_refl _);rw[List.take_length]at l;unfold ah at hc;rw[h.e,bR,List.length_append,List.length_append,cT,cT];omega
theorem RU (h:L4 sp lg os cs qs j o)(j0:0<=j)(hh:hlB sp lg (ag qs j 0) (ag qs j 1)=true):L4 sp lg os cs qs (j+1) (o++[[.i (ag qs j 0)]]):=
 ⟨h.ok,aV h.ok2 hh,by rw[kP j0, <-List.append_assoc,eH, <-h.e];rfl⟩
theorem U3 (h:L4 sp lg os cs qs i o)(i1:i<=qs.length)(i2:(qs.length:Int)<=i):L5 sp lg os cs qs fl 0 o:=⟨h.ok,bB h.ok2 i2,bi,by rw[h.e,show i.toNat=qs.length from by omega];simp[gU]⟩
theorem U4 (h:L5 sp lg os cs qs fl j o)(j1:j<=fl.length)(hc:ah cs<=1073741824)(ho:os.length<=1073741824)(hq:qs.length<=1073741824)(hf:fl.length<=30):o.length<=4294967400:=by
 have l:=ip (cs:=cs) cs.length (Nat.le_refl _);rw[List.take_length]at l;unfold ah at hc;rw[h.e,bR,List.length_append,List.length_append,List.length_append,cT,cT,cT];omega
theorem RV (h:L5 sp lg os cs qs fl j o)(j0:0<=j)(hh:hlB sp lg (ag fl j 0) (-1)=true):L5 sp lg os cs qs fl (j+1) (o++[[.i (ag fl j 0)]]):=
 ⟨h.ok,h.ok2,aV h.ok3 hh,by rw[kP j0, <-List.append_assoc,eH, <-h.e];rfl⟩
theorem U5 (h:L5 sp lg os cs qs fl i o)(i1:i<=fl.length)(i2:(fl.length:Int)<=i):Iu sp lg os cs qs fl 0 o:=
 ⟨h.ok,h.ok2,bB h.ok3 i2,by rw[h.e,show i.toNat=fl.length from by omega];rfl,List.nodup_nil⟩
theorem RX (h:Iu sp lg os cs qs fl j o)(hc:ah cs<=1073741824)(ho:os.length<=1073741824)(hq:qs.length<=1073741824)(hf:fl.length<=30):o.length<=4294967400:=by
 have l:=ip (cs:=cs) cs.length (Nat.le_refl _);rw[List.take_length]at l;unfold ah at hc;rw[h.e,bR];unfold BX;rw[List.length_append,List.length_append,List.length_append,cT,cT,cT];omega
theorem A5 {l:List Int}{n:Nat}:(eS l).take n=eS (l.take n):=by unfold eS;rw[List.map_take]
theorem zo {l:List Int}{i:Int}(h0:0<=i)(h:i<(eS l).length):∃ x,l[i.toNat]?=some x/\ag (eS l) i 0=x:=by
 rw[bR]at h;have q:=mL (l:=l) (k:=i.toNat) (by omega);rw[Int.toNat_of_nonneg h0]at q;exact⟨_,List.getElem?_eq_getElem (by omega),q⟩
theorem RZ (h:Iu sp lg os cs qs fl j o)(j0:0<=j)(j1:j<o.length)(hh:hasB (o.take j.toNat) (ag o j 0)=false):Iu sp lg os cs qs fl (j+1) o:=by
 refine⟨h.ok,h.ok2,h.ok3,h.e,?_⟩;have e:=h.e;rw[e]at j1 hh;obtain⟨v,q1,q2⟩:=zo j0 j1;rw[A5,q2]at hh;have nm:=sV hh;rw[show(j+1).toNat=j.toNat+1 from by omega,List.take_succ,q1];exact iu h.nd nm
theorem U6 (h:Iu sp lg os cs qs (ifL b x) j o)(j0:0<=j)(j1:j<o.length)(hh:hasB (o.take j.toNat) (ag o j 0)=true):hoS sp lg os cs b x qs=false:=by
 have e:=h.e;rw[e]at j1 hh;obtain⟨v,q1,q2⟩:=zo j0 j1;rw[A5,q2,lC]at hh;have:¬ (BX os cs qs (ifL b x)).Nodup:=fun nd=>by
  have lt:j.toNat<(BX os cs qs (ifL b x)).length:=by rw[bR]at j1;omega
  have sp:=List.take_append_drop j.toNat (BX os cs qs (ifL b x));rw[List.drop_eq_getElem_cons lt]at sp;have gv:(BX os cs qs (ifL b x))[j.toNat]=v:=by rw[List.getElem?_eq_getElem lt]at q1;exact Option.some.inj q1
  rw[gv]at sp;exact dup sp.symm hh nd
 unfold hoS;rw[decide_eq_false this];simp
theorem N6 (h:Iu sp lg os cs qs (ifL b x) j o)(j2:(o.length:Int)<=j):decide ((o.length:Int)=(laL sp lg).length)=hoS sp lg os cs b x qs:=by
 have e:=h.e;have nd:=h.nd;have l:(BX os cs qs (ifL b x)).length=o.length:=by rw[e,bR]
 rw[List.take_of_length_le (by omega)]at nd;unfold hoS;rw[h.ok,h.ok2,h.ok3,decide_eq_true nd,l];simp only[Bool.true_and];exact ew (by rw[decide_eq_true_eq,decide_eq_true_eq];omega)
def OI (l:List Int):Prop:=∀ v∈l,-9223372036854775808<=v/\v<=9223372036854775807
theorem yN {l m:List Int}(h:OI l)(g:OI m):OI (l++m):=fun v hv=>by
 rcases List.mem_append.1 hv with q|q
 ·exact h v q
 ·exact g v q
theorem yO {fs:List Ty}{l:aa}{f:Nat}(h:Rw fs l)(hf:fs[f]?=some tI):OI (gU l f l.length):=fun v hv=>by
 obtain⟨n,n1,rfl⟩:=fE.1 hv;exact nW h hf (by omega)
theorem M7 {ls:aa}(h:Rw [.sl [tI]] ls):OI (wW ls ls.length):=fun v hv=>by
 obtain⟨n,n1,q⟩:=sY.1 hv;exact yO (fs:=[tI]) (Rw.sub (fs:=[.sl [tI]]) h (by omega) rfl) rfl v q
theorem M6 {cs:aa}(h:Rw [.sl [.sl [tI]]] cs):OI (oM cs cs.length):=fun v hv=>by
 obtain⟨n,n1,q⟩:=sX.1 hv;exact M7 (Rw.sub (fs:=[.sl [.sl [tI]]]) h (by omega) rfl) v q
theorem RY (N:zX sp lg os cs b x qs)(h:Iu sp lg os cs qs (ifL b x) j o)(n:Nat):Rw [tI] (o.take n):=by
 have l:=RX h N.cl N.ol N.ql B4;refine Rw.take ?_ n;rw[h.e]at l ⊢;rw[bR]at l;refine pT ?_ (by omega);unfold BX;exact yN (yN (yN (yO N.ow rfl) (M6 N.cw)) (yO N.qw rfl)) (yO (Gf N.m) rfl)
theorem FZ {a k:Int}(hl:layOk sp lg=true)(h:hlB sp lg a k=true):sy sp lg a=true:=by
 unfold hlB at h;simp only[Bool.and_eq_true,decide_eq_true_eq]at h;exact(DD hl).2 ⟨h.2.1,.inl h.1⟩
theorem Q2 {a s:Int}(hl:layOk sp lg=true)(h:okO sp lg a s=true):sy sp lg a=true:=by
 unfold okO at h;simp only[Bool.and_eq_true,Bool.or_eq_true,decide_eq_true_eq]at h;exact(DD hl).2 ⟨h.1,h.2.elim (fun q=>.inl q.1) (fun q=>.inr q.1)⟩
def Ns (sp lg:aa):List Int:=Ii sp lg 512
theorem Ql (hl:layOk sp lg=true):laL sp lg=eS (Ns sp lg):=by unfold laL Ns;rw[if_pos hl,pG]
theorem Jg (hl:layOk sp lg=true){a:Int}:a∈Ns sp lg↔sy sp lg a=true:=by
 unfold Ns;rw[lG]
 constructor
 ·exact fun h=>h.2.2
 ·intro h;have F:=Jc hl;have v:=K1 F hl h;have r:a∈KP sp lg:=yZ.2 v;refine⟨?_,?_,h⟩
  ·rcases v with⟨i,k,i1,k1,_,e⟩|⟨j,j1,e⟩
   ·have ae:=kq (s:=(k:Int)) (F.s i i1) (by omega) (by omega);have t:=hZ (F.s i i1);omega
   ·have t:=fM (F.l j j1);omega
  ·rcases v with⟨i,k,i1,k1,_,e⟩|⟨j,j1,e⟩
   ·have ae:=kq (s:=(k:Int)) (F.s i i1) (by omega) (by omega);have t:=hZ (F.s i i1);omega
   ·have t:=fM (F.l j j1);have b:=gf t.1;omega
theorem NE :(Ns sp lg).Nodup:=(Cp 512).imp (fun h=>by omega)
theorem DX :(F1 os cs qs fl).Perm (BX os cs qs fl):=by
 unfold F1 BX;have q:=List.perm_append_comm (l₁:=oM cs cs.length++gU qs 0 qs.length++gU fl 0 fl.length) (l₂:=gU os 1 os.length);refine q.trans ?_;rw[List.append_assoc,List.append_assoc,List.append_assoc]
theorem G6 {l m:List Int}(hm:m.Nodup)(hs:∀ v∈l,v∈m):(∀ v∈m,l.count v=1)↔l.Nodup/\l.length=m.length:=by
 constructor
 ·intro h;have nd:l.Nodup:=List.nodup_iff_count.2 (fun v=>by
   by_cases c:v∈l
   ·rw[h v (hs v c)];exact Nat.le_refl _
   ·rw[List.count_eq_zero.2 c];omega)
  refine⟨nd,?_⟩;have p:l.Perm m:=by
   rw[List.perm_ext_iff_of_nodup nd hm];intro v;refine⟨hs v,fun hv=>?_⟩;have:=h v hv;exact List.count_pos_iff.1 (by omega)
  exact p.length_eq
 ·rintro⟨nd,len⟩ v hv;have hv':v∈l:=by
   by_cases c:v∈l
   ·exact c
   ·exfalso;have q:=List.Nodup.length_le_of_subset (l₁:=v::l) (l₂:=m) (List.nodup_cons.2 ⟨c,nd⟩) (fun y hy=>by
     rcases List.mem_cons.1 hy with rfl|hy
     ·exact hv
     ·exact hs y hy)
    rw[List.length_cons]at q;omega
  have p1:=List.nodup_iff_count.1 nd v;have p2:=List.count_pos_iff.2 hv';omega
theorem cM {p:Int->Bool}{n:Nat}(h:ce p n=true):∀ k:Nat,k<n->p k=true:=fun k hk=>cn.1 h k (by omega) (by omega)
theorem Jt {c:Int}:ce (Cq sp lg qs c) qs.length=(ce (qA sp lg qs) qs.length&&ce (sA qs c) qs.length):=by
 refine ew ?_;rw[Bool.and_eq_true,cn,cn,cn];unfold upto Cq
 constructor
 ·intro h;refine⟨fun j h0 h1=>?_,fun j h0 h1=>?_⟩
  ·have:=h j h0 h1;rw[Bool.and_eq_true]at this;exact this.1
  ·have:=h j h0 h1;rw[Bool.and_eq_true]at this;exact this.2
 ·rintro⟨h,g⟩ j h0 h1;rw[h j h0 h1,g j h0 h1];rfl
theorem F3 {nx c:Int}(hl:layOk sp lg=true)(ho:objOk sp lg os cs nx=true):hoI sp lg os cs b x qs c=(hoS sp lg os cs b x qs&&ce (sA qs c) qs.length):=by
 unfold hoI hoS;rw[Jt];by_cases h1:ce (iA sp lg cs) cs.length=true
 case neg=>rw[Bool.not_eq_true]at h1;rw[h1];rfl
 by_cases h2:ce (qA sp lg qs) qs.length=true
 case neg=>rw[Bool.not_eq_true]at h2;rw[h2];simp
 by_cases h3:ce (jA sp lg (ifL b x) (-1)) (ifL b x).length=true
 case neg=>rw[Bool.not_eq_true]at h3;rw[h3];simp
 have sub:∀ v∈F1 os cs qs (ifL b x),v∈Ns sp lg:=by
  intro v hv;rw[Jg hl];unfold F1 at hv;rw[List.mem_append,List.mem_append,List.mem_append]at hv;rcases hv with((hv|hv)|hv)|hv
  ·obtain⟨i,i1,hv⟩:=sX.1 hv;obtain⟨k,k1,hv⟩:=sY.1 hv;obtain⟨j,j1,rfl⟩:=fE.1 hv;have q1:=cM h1 i i1;have q2:=cM q1 k k1;have q3:=cM q2 j j1;exact FZ hl q3
  ·obtain⟨j,j1,rfl⟩:=fE.1 hv;exact FZ hl (cM h2 j j1)
  ·obtain⟨j,j1,rfl⟩:=fE.1 hv;exact FZ hl (cM h3 j j1)
  ·obtain⟨j,j1,rfl⟩:=fE.1 hv;have q:=cM ho j j1;unfold wi at q;simp only[Bool.and_eq_true]at q;exact Q2 hl q.2.2.2.2
 have key:=G6 NE sub;have e1:ce (Iw (F1 os cs qs (ifL b x)) (laL sp lg)) (laL sp lg).length=(decide (BX os cs qs (ifL b x)).Nodup&&decide ((BX os cs qs (ifL b x)).length=(laL sp lg).length)):=by
  refine ew ?_;rw[Bool.and_eq_true,decide_eq_true_eq,decide_eq_true_eq, <-DX.nodup_iff, <-DX.length_eq,Ql hl,bR, <-key]
  constructor
  ·intro h v hv;obtain⟨n,n1,rfl⟩:=List.mem_iff_getElem.1 hv;have q:=cM h n n1;unfold Iw at q;rw[mL n1,decide_eq_true_eq]at q;exact q
  ·intro h;rw[cn];intro j h0 h1;have n1:j.toNat<(Ns sp lg).length:=by omega
   have q:=mL n1;rw[Int.toNat_of_nonneg h0]at q;unfold Iw;rw[q,decide_eq_true_eq];exact h _ (List.getElem_mem n1)
 rw[h1,h2,h3,e1];simp only[Bool.true_and];exact Bool.and_comm _ _
end
end Go.V
namespace Go.V
theorem Dr {n:Int}:∀ {es:aa},OH es->∀ m,m∈jz (jk es n (.v (.bool true)))↔m∈jz es\/m=n
 | [],_,m=>by
   show m∈jz [[.i n,.v (.bool true)]]↔_;simp[jz,Ts]
 | e::es,h,m=>by
   obtain⟨k,b,rfl⟩:=h e (by simp);have h':OH es:=fun e he=>h e (by simp[he])
   have ih:=Dr (n:=n) h' m;rw[DK];by_cases c:k=n
   ·rw[if_pos c];subst c;show m∈k::jz es↔m∈k::jz es\/m=k;simp only[List.mem_cons]
    constructor
    ·exact fun h=>.inl h
    ·rintro(h|h)
     ·exact h
     ·exact .inl h
   ·rw[if_neg c];show m∈k::jz (jk es n (.v (.bool true)))↔m∈k::jz es\/m=n;simp only[List.mem_cons,ih,or_assoc]
structure tj (es:aa)(l:List Int):Prop where
 s:lW es l
 k:∀ m,m∈jz es↔m∈l
theorem Q5 :tj [] []:=⟨Cy,fun m=>Iff.rfl⟩
theorem Hb {es:aa}{l:List Int}{n:Int}(h:tj es l):tj (jk es n (.v (.bool true))) (l++[n]):=
 ⟨td h.s,fun m=>by rw[Dr h.s.wf,h.k,List.mem_append,List.mem_singleton]⟩
def tc (sp:aa)(i:Int):Bool:= !(decide (0<i)&&decide (ag sp i 0<=ag sp (i-1) 0))
def KC (es:aa)(p:Int):Bool:=decide ((fpg es p).length=1)
def xS (es lg:aa)(i:Int):Bool:=tc lg i&&ce (fun k=>KC es (ag lg i 0+k)) (ag lg i 1).toNat
def ownB (sp lg:aa)(p:Int):Bool:=decide (p∈qL sp lg)
def mapB (es:aa)(p:Int):Bool:=decide (peM es p≠0)
def wX (es fr sp lg:aa)(p:Int):Bool:=(mapB es p==ownB sp lg p)&& !(rhB fr p==ownB sp lg p)
def G5 (es sp lg:aa):Bool:=decide (∀ p∈qL sp lg,p<es.length)
def sB (sp:aa)(i j:Int):Bool:=mshB (ag sp i 0) (ag sp i 1) (ag sp i 2) (ag sp j 0) (ag sp j 1) (ag sp j 2)
def EH (es sp:aa)(i j:Int):Bool:= !decide (peF es (ag sp i 0)=peF es (ag sp j 0))||sB sp i j
def GO (es sp:aa)(i:Int):Bool:=ce (EH es sp i) i.toNat
def GJ (es sp:aa)(i k:Int):Bool:=decide (spI sp (ag (fpg es (ag sp i 0)) k 0)=i)||(decide (0<=spI sp (ag (fpg es (ag sp i 0)) k 0))&&sB sp i (spI sp (ag (fpg es (ag sp i 0)) k 0)))
def msA (es sp:aa)(i:Int):Bool:=ce (GJ es sp i) (fpg es (ag sp i 0)).length
def pgI (es fr sp lg:aa):Bool:=ce (tc sp) sp.length&&(ce (xS es lg) lg.length&&(ce (wX es fr sp lg) es.length&&(G5 es sp lg&&ce (GO es sp) sp.length)))
def pgS (es fr sp lg:aa):Bool:=ce (tc sp) sp.length&&(ce (xS es lg) lg.length&&(G5 es sp lg&&ce (wX es fr sp lg) es.length))
def smS (es sp:aa):Bool:=ce (msA es sp) sp.length
section
variable {es fr sp lg m : aa} {i j k p : Int} {vs : List Int}
theorem Ef (h:0<i)(g:ag sp i 0<=ag sp (i-1) 0):tc sp i=false:=by unfold tc;rw[decide_eq_true h,decide_eq_true g];rfl
theorem Eg (h:i<=0):tc sp i=true:=by unfold tc;rw[decide_eq_false (by omega)];rfl
theorem Eh (h:ag sp (i-1) 0<ag sp i 0):tc sp i=true:=by unfold tc;rw[decide_eq_false (p:=ag sp i 0<=_) (by omega)];simp
theorem Re (i0:0<=i)(i1:i<sp.length)(h:tc sp i=false):pgI es fr sp lg=false:=by unfold pgI;rw[bM i0 i1 h];rfl
theorem Lg (i0:0<=i)(i1:i<lg.length)(h:xS es lg i=false):pgI es fr sp lg=false:=by unfold pgI;rw[bM i0 i1 h];simp
theorem Lh (i0:0<=i)(i1:i<es.length)(h:wX es fr sp lg i=false):pgI es fr sp lg=false:=by unfold pgI;rw[bM i0 i1 h];simp
theorem Rf (h:G5 es sp lg=false):pgI es fr sp lg=false:=by unfold pgI;rw[h];simp
theorem Rh (i0:0<=i)(i1:i<sp.length)(h:GO es sp i=false):pgI es fr sp lg=false:=by unfold pgI;rw[bM i0 i1 h];simp
theorem UD {a b c d:Int}(h1:upto (tc sp) a)(g1:(sp.length:Int)<=a)(h2:upto (xS es lg) b)(g2:(lg.length:Int)<=b)(h3:upto (wX es fr sp lg) c)(g3:(es.length:Int)<=c)(h4:G5 es sp lg=true)(h5:upto (GO es sp) d)(g5:(sp.length:Int)<=d):pgI es fr sp lg=true:=by
 unfold pgI;rw[bB h1 g1,bB h2 g2,bB h3 g3,h4,bB h5 g5];rfl
theorem Rn (i0:0<=i)(i1:i<sp.length)(h:tc sp i=false):pgS es fr sp lg=false:=by unfold pgS;rw[bM i0 i1 h];rfl
theorem Li (i0:0<=i)(i1:i<lg.length)(h:xS es lg i=false):pgS es fr sp lg=false:=by unfold pgS;rw[bM i0 i1 h];simp
theorem Lj (i0:0<=i)(i1:i<es.length)(h:wX es fr sp lg i=false):pgS es fr sp lg=false:=by unfold pgS;rw[bM i0 i1 h];simp
theorem Ro (h:G5 es sp lg=false):pgS es fr sp lg=false:=by unfold pgS;rw[h];simp
theorem UF {a b c:Int}(h1:upto (tc sp) a)(g1:(sp.length:Int)<=a)(h2:upto (xS es lg) b)(g2:(lg.length:Int)<=b)(h3:upto (wX es fr sp lg) c)(g3:(es.length:Int)<=c)(h4:G5 es sp lg=true):pgS es fr sp lg=true:=by
 unfold pgS;rw[bB h1 g1,bB h2 g2,bB h3 g3,h4];rfl
theorem KV (h:tc lg i=false):xS es lg i=false:=by unfold xS;rw[h];rfl
theorem KW (k0:0<=k)(k1:k<ag lg i 1)(h:(fpg es (ag lg i 0+k)).length≠1):xS es lg i=false:=by
 unfold xS;rw[bM (i:=k) (n:=(ag lg i 1).toNat) k0 (by omega) (show KC es (ag lg i 0+k)=false from decide_eq_false h),Bool.and_false]
theorem Qn (h:tc lg i=true)(g:upto (fun k=>KC es (ag lg i 0+k)) k)(k1:ag lg i 1<=k)(n0:0<=ag lg i 1):xS es lg i=true:=by
 unfold xS;rw[h,bB g (by omega)];rfl
theorem KD (g:upto (fun k=>KC es (ag lg i 0+k)) k)(h:(fpg es (ag lg i 0+k)).length=1):upto (fun k=>KC es (ag lg i 0+k)) (k+1):=aV g (decide_eq_true h)
structure OC (es sp lg:aa)(j:Int)(m:aa):Prop where
 ok:upto (xS es lg) j
 o:tj m (iV sp sp.length++iU lg j.toNat)
structure OB (es sp lg:aa)(j k:Int)(m:aa):Prop where
 ok:upto (xS es lg) j
 h:tc lg j=true
 g:upto (fun k=>KC es (ag lg j 0+k)) k
 o:tj m (iV sp sp.length++iU lg j.toNat++lJ (ag lg j 0) k.toNat)
theorem UE (h:tj m (iV sp i.toNat))(i1:i<=sp.length)(i2:(sp.length:Int)<=i):OC es sp lg 0 m:=⟨bi,by rw[show i.toNat=sp.length from by omega]at h;simpa[iU]using h⟩
theorem Ri (h:OC es sp lg j m)(g:tc lg j=true):OB es sp lg j (ag lg j 0-ag lg j 0) m:=by
 rw[Int.sub_self];exact⟨h.ok,g,bi,by simpa[lJ]using h.o⟩
theorem Rk (h:OB es sp lg j (p-ag lg j 0) m)(p0:ag lg j 0<=p)(g:(fpg es p).length=1):OB es sp lg j (p+1-ag lg j 0) (jk m p (.v (.bool true))):=by
 have e:ag lg j 0+(p-ag lg j 0)=p:=by omega
 rw[show p+1-ag lg j 0=(p-ag lg j 0)+1 from by omega];refine⟨h.ok,h.h,KD h.g (by rw[e];exact g),?_⟩;rw[vD (by omega),e, <-List.append_assoc];exact Hb h.o
theorem Rj (p0:ag lg j 0<=p)(p1:p<ag lg j 0+ag lg j 1)(h:(fpg es p).length≠1):xS es lg j=false:=
 KW (k:=p-ag lg j 0) (by omega) (by omega) (by rw[show ag lg j 0+(p-ag lg j 0)=p from by omega];exact h)
theorem Rl (h:OB es sp lg j (p-ag lg j 0) m)(j0:0<=j)(n0:0<=ag lg j 1)(p1:p<=ag lg j 0+ag lg j 1)(p2:ag lg j 0+ag lg j 1<=p):OC es sp lg (j+1) m:=by
 refine⟨aV h.ok (Qn h.h h.g (by omega) n0),?_⟩;have o:=h.o;rw[show(p-ag lg j 0).toNat=(ag lg j 1).toNat from by omega,List.append_assoc, <-mE j0]at o;exact o
theorem NP (h:OC es sp lg j m)(j1:j<=lg.length)(j2:(lg.length:Int)<=j):tj m (qL sp lg):=by
 have o:=h.o;rw[show j.toNat=lg.length from by omega]at o;exact o
theorem Q6 (h:tj m (qL sp lg))(p:Int):mgbI m p=ownB sp lg p:=by
 refine ew ?_;unfold ownB;rw[h.s.at_,decide_eq_true_eq]
theorem KA (h:mapB es p≠ownB sp lg p):wX es fr sp lg p=false:=by unfold wX;rw[beq_eq_false_iff_ne.2 h];rfl
theorem KB (h:rhB fr p=ownB sp lg p):wX es fr sp lg p=false:=by unfold wX;rw[h];simp
theorem Pn (h:mapB es p=ownB sp lg p)(g:rhB fr p≠ownB sp lg p):wX es fr sp lg p=true:=by unfold wX;rw[h,beq_eq_false_iff_ne.2 g];simp
theorem Mt (h:mapB es p=rhB fr p)(g:mapB es p=ownB sp lg p):wX es fr sp lg p=false:=KB (by rw[<-h,g])
theorem Po (h:mapB es p≠rhB fr p)(g:mapB es p=ownB sp lg p):wX es fr sp lg p=true:=Pn g (fun e=>h (by rw[g,e]))
theorem QJ (p0:0<=p)(p1:p<es.length):cD .neq (ag es p 0) 0=mapB es p:=by rw[yC];unfold mapB peM;rw[if_pos (by omega)]
theorem QY (h:p∈qL sp lg)(g:(es.length:Int)<=p):G5 es sp lg=false:=decide_eq_false (fun c=>by have:=c p h;omega)
theorem UA (o:tj m (qL sp lg))(h:∀ k∈vs,k<es.length)(g:∀ k∈jz m,k∈vs):G5 es sp lg=true:=decide_eq_true (fun p hp=>h p (g p ((o.k p).2 hp)))
theorem Sl {q:Int}(h:∀ k∈vs,k<(es.length:Int))(g:q<es.length):∀ k∈q::vs,k<(es.length:Int):=fun k hk=>by
 rcases List.mem_cons.1 hk with rfl|hk
 ·exact g
 ·exact h k hk
theorem Uv (j0:0<=j)(j1:j<i)(h:peF es (ag sp i 0)=peF es (ag sp j 0))(g:sB sp i j=false):GO es sp i=false:=by
 unfold GO;exact bM j0 (by omega) (by unfold EH;rw[g,decide_eq_true h];rfl)
theorem QF (h:peF es (ag sp i 0)≠peF es (ag sp j 0)):EH es sp i j=true:=by unfold EH;rw[decide_eq_false h];rfl
theorem QG (h:sB sp i j=true):EH es sp i j=true:=by unfold EH;rw[h,Bool.or_true]
theorem Uw (h:upto (EH es sp i) j)(g:i<=j)(i0:0<=i):GO es sp i=true:=by unfold GO;exact bB h (by omega)
structure Ia (es sp lg:aa)(j:Int)(o:aa):Prop where
 ok:upto (xS es lg) j
 e:o=eS (iV sp sp.length++iU lg j.toNat)
 l:(iU lg j.toNat).length<=64*j.toNat
structure L0 (es sp lg:aa)(j k:Int)(o:aa):Prop where
 ok:upto (xS es lg) j
 h:tc lg j=true
 g:upto (fun k=>KC es (ag lg j 0+k)) k
 e:o=eS (iV sp sp.length++iU lg j.toNat++lJ (ag lg j 0) k.toNat)
 l:(iU lg j.toNat).length<=64*j.toNat
structure L1 (sp:aa)(i:Int)(o:aa):Prop where
 ok:upto (tc sp) i
 e:o=eS (iV sp i.toNat)
variable {o : aa}
theorem UN :L1 sp 0 []:=⟨bi,rfl⟩
theorem UO (h:L1 sp i o):o.length=i.toNat:=by rw[h.e,bR,lN]
theorem Lm (h:L1 sp i o)(i0:0<=i)(g:tc sp i=true):L1 sp (i+1) (o++[[.i (ag sp i 0)]]):=⟨aV h.ok g,by rw[k9 i0,eH, <-h.e];rfl⟩
theorem UJ (h:L1 sp i o)(i1:i<=sp.length)(i2:(sp.length:Int)<=i):Ia es sp lg 0 o:=⟨bi,by rw[h.e,show i.toNat=sp.length from by omega];simp[iU],Nat.zero_le _⟩
theorem Rv (h:Ia es sp lg j o)(g:tc lg j=true):L0 es sp lg j 0 o:=⟨h.ok,g,bi,by rw[h.e];simp[lJ],h.l⟩
theorem Rx (h:L0 es sp lg j k o)(k0:0<=k)(g:(fpg es (ag lg j 0+k)).length=1):L0 es sp lg j (k+1) (o++[[.i (ag lg j 0+k)]]):=
 ⟨h.ok,h.h,KD h.g g,by rw[vD k0, <-List.append_assoc,eH, <-h.e];rfl,h.l⟩
theorem Rz (h:L0 es sp lg j k o)(j0:0<=j)(n0:0<=ag lg j 1)(n1:ag lg j 1<=64)(k1:k<=ag lg j 1)(k2:ag lg j 1<=k):Ia es sp lg (j+1) o:=by
 have l:=h.l;refine⟨aV h.ok (Qn h.h h.g k2 n0),?_,?_⟩
 ·rw[h.e,show k.toNat=(ag lg j 1).toNat from by omega,List.append_assoc, <-mE j0]
 ·rw[mE j0,List.length_append,ox];omega
theorem UI (h:L0 es sp lg j k o)(k1:k<=64):o.length<=sp.length+64*j.toNat+64:=by
 have l:=h.l;rw[h.e,bR,List.length_append,List.length_append,lN,ox];omega
theorem Js (h:Ia es sp lg j o)(j1:j<=lg.length)(j2:(lg.length:Int)<=j):o=eS (qL sp lg):=by
 have e:=h.e;rw[show j.toNat=lg.length from by omega]at e;exact e
theorem Hj (hl:layOk sp lg=true){x:Int}(h:x∈qL sp lg):0<=x/\x<=31:=by
 have F:=Jc hl;unfold qL at h;rw[List.mem_append,jD,iq]at h;rcases h with⟨i,i1,e⟩|⟨j,j1,e1,e2⟩
 ·have t:=hZ (F.s i i1);omega
 ·have t:=fM (F.l j j1);have b:=gf t.1;omega
theorem Ry (hl:layOk sp lg=true)(h:Ia es sp lg j o)(j1:j<=lg.length)(j2:(lg.length:Int)<=j)(hs:sp.length<=1073741824)(hg:lg.length<=1073741824):Rw [tI] o:=by
 have l:=h.l;rw[Js h j1 j2];refine pT (fun x hx=>by have:=Hj hl hx;omega) ?_;unfold qL;rw[List.length_append,lN];rw[show j.toNat=lg.length from by omega]at l;omega
theorem UK (h:Ia es sp lg j o)(j1:j<=lg.length)(j2:(lg.length:Int)<=j)(i0:0<=i)(i1:i<o.length)(g:(es.length:Int)<=ag o i 0):G5 es sp lg=false:=by
 have e:=Js h j1 j2;rw[e]at i1 g;obtain⟨v,q1,q2⟩:=zo i0 i1;rw[q2]at g;exact QY (List.mem_of_getElem? q1) g
theorem UM (h:Ia es sp lg j o)(j1:j<=lg.length)(j2:(lg.length:Int)<=j)(g:upto (fun t=>decide (ag o t 0<es.length)) i)(i2:(o.length:Int)<=i):G5 es sp lg=true:=by
 have e:=Js h j1 j2;refine decide_eq_true (fun p hp=>?_);obtain⟨n,n1,rfl⟩:=List.mem_iff_getElem.1 hp;have n2:n<o.length:=by rw[e,bR];exact n1
 have q:=g n (by omega) (by omega);rw[decide_eq_true_eq,e,mL n1]at q;exact q
theorem UL (h:Ia es sp lg j o)(j1:j<=lg.length)(j2:(lg.length:Int)<=j)(p:Int):hasB o p=ownB sp lg p:=by
 refine ew ?_;rw[Js h j1 j2,lC];unfold ownB;rw[decide_eq_true_eq]
theorem QO (k0:0<=k)(k1:k<(fpg es (ag sp i 0)).length)(h:spI sp (ag (fpg es (ag sp i 0)) k 0)≠i)(g:spI sp (ag (fpg es (ag sp i 0)) k 0)<0):msA es sp i=false:=by
 unfold msA;exact bM k0 k1 (by unfold GJ;rw[decide_eq_false h,decide_eq_false (by omega)];rfl)
theorem QP (k0:0<=k)(k1:k<(fpg es (ag sp i 0)).length)(h:spI sp (ag (fpg es (ag sp i 0)) k 0)≠i)(g:sB sp i (spI sp (ag (fpg es (ag sp i 0)) k 0))=false):msA es sp i=false:=by
 unfold msA;exact bM k0 k1 (by unfold GJ;rw[decide_eq_false h,g];simp)
theorem QH (h:spI sp (ag (fpg es (ag sp i 0)) k 0)=i):GJ es sp i k=true:=by unfold GJ;rw[decide_eq_true h];rfl
theorem QI (h:0<=spI sp (ag (fpg es (ag sp i 0)) k 0))(g:sB sp i (spI sp (ag (fpg es (ag sp i 0)) k 0))=true):GJ es sp i k=true:=by unfold GJ;rw[decide_eq_true h,g];simp
theorem Ly {p:Int}(h:0<=spI sp p):spI sp p<sp.length:=by
 obtain⟨b,_⟩:=dP h;exact b
theorem BJ {a b:Int}:bF .and .i64 a b=bF .and .i64 b a:=by
 show IntKind.wrap .i64 ((BitVec.ofInt _ a&&&BitVec.ofInt _ b).toNat)=IntKind.wrap .i64 ((BitVec.ofInt _ b&&&BitVec.ofInt _ a).toNat);rw[BitVec.and_comm]
theorem GX :sB sp i j=sB sp j i:=by
 refine ew ?_;unfold sB mshB;simp only[Bool.and_eq_true,decide_eq_true_eq];rw[BJ (a:=ag sp i 2)]
 constructor
 ·rintro⟨a,b,c,d,e⟩;exact⟨b,a,c.symm,fun h=>d h.symm,e⟩
 ·rintro⟨a,b,c,d,e⟩;exact⟨b,a,c.symm,fun h=>d h.symm,e⟩
theorem zf {es:aa}{f:Int}:∀ {n:Nat} {x:Int},hasB (sC es f n) x=true↔∃ k:Nat,k<n/\x=k/\ag es k 0≠0/\ag es k 1=f
 |0,x=>⟨fun h=>absurd (xM.1 h) (List.not_mem_nil),fun⟨k,h,_⟩=>absurd h (Nat.not_lt_zero _)⟩
 | n+1,x=>by
   by_cases c:ag es n 0≠0/\ag es n 1=f
   ·rw[DY c.1 c.2,IY,Bool.or_eq_true,zf,IZ]
    constructor
    ·rintro(⟨k,h,e⟩|e)
     ·exact⟨k,by omega,e⟩
     ·exact⟨n,by omega,e.symm,c⟩
    ·rintro⟨k,h,e,q⟩;by_cases d:k=n
     ·subst d;exact .inr e.symm
     ·exact .inl ⟨k,by omega,e,q⟩
   ·have c':ag es n 0=0\/ag es n 1≠f:=by
     by_cases z:ag es n 0=0
     ·exact .inl z
     ·exact .inr (fun e=>c ⟨z,e⟩)
    rw[Hi c',zf]
    constructor
    ·rintro⟨k,h,e⟩;exact⟨k,by omega,e⟩
    ·rintro⟨k,h,e,q⟩;by_cases d:k=n
     ·subst d;exact absurd q c
     ·exact⟨k,by omega,e,q⟩
theorem sQ {p x:Int}:hasB (fpg es p) x=true↔peM es p≠0/\0<=x/\x<es.length/\peM es x≠0/\peF es x=peF es p:=by
 by_cases c:peM es p=0
 ·rw[FT c];exact⟨fun h=>absurd (xM.1 h) (List.not_mem_nil),fun h=>absurd c h.1⟩
 ·rw[Dg c];unfold pagesOn;rw[zf]
  constructor
  ·rintro⟨k,h,rfl,q1,q2⟩;refine⟨c,by omega,by omega,?_,?_⟩
   ·unfold peM;rw[if_pos (by omega)];exact q1
   ·rw[show peF es k=ag es k 1 from by unfold peF;rw[if_pos (by omega)]];exact q2
  ·rintro⟨_,h0,h1,q1,q2⟩;refine⟨x.toNat,by omega,by omega,?_,?_⟩
   ·rw[Int.toNat_of_nonneg h0];unfold peM at q1;rw[if_pos (by omega)]at q1;exact q1
   ·rw[Int.toNat_of_nonneg h0];unfold peF at q2;rw[if_pos (c:=0<=x/\x<_) (by omega)]at q2;rw[q2];rfl
theorem yK {l:aa}{x:Int}:hasB l x=true↔∃ k:Nat,k<l.length/\ag l k 0=x:=Di
theorem Hk (hl:layOk sp lg=true):pgI es fr sp lg=(pgS es fr sp lg&&smS es sp):=by
 have F:=Jc hl;unfold pgI pgS;by_cases h1:ce (tc sp) sp.length=true
 case neg=>rw[Bool.not_eq_true]at h1;rw[h1];rfl
 by_cases h2:ce (xS es lg) lg.length=true
 case neg=>rw[Bool.not_eq_true]at h2;rw[h2];simp
 by_cases h3:ce (wX es fr sp lg) es.length=true
 case neg=>rw[Bool.not_eq_true]at h3;rw[h3];simp
 by_cases h4:G5 es sp lg=true
 case neg=>rw[Bool.not_eq_true]at h4;rw[h4];simp
 rw[h1,h2,h3,h4];simp only[Bool.true_and];have h4':=of_decide_eq_true h4;have mp:∀ q:Int,0<=q->q<es.length->(peM es q≠0↔q∈qL sp lg):=by
  intro q q0 q1;have e:=cn.1 h3 q q0 q1;unfold wX at e;simp only[Bool.and_eq_true,beq_iff_eq]at e;have e:=e.1;unfold mapB ownB at e
  constructor
  ·intro h;rw[decide_eq_true h]at e;exact of_decide_eq_true e.symm
  ·intro h;rw[decide_eq_true h]at e;exact of_decide_eq_true e
 have spg:∀ n:Nat,n<sp.length->ag sp n 0∈qL sp lg:=fun n hn=>List.mem_append.2 (.inl (jD.2 ⟨n,hn,rfl⟩))
 have spm:∀ n:Nat,n<sp.length->0<=ag sp n 0/\ag sp n 0<es.length/\peM es (ag sp n 0)≠0:=by
  intro n hn;have b:=Hj hl (spg n hn);have c:=h4' _ (spg n hn);exact⟨b.1,c,(mp _ b.1 c).2 (spg n hn)⟩
 have sat:∀ n:Nat,n<sp.length->spI sp (ag sp n 0)=n:=by
  intro n hn;have q:=kK (p:=isSp sp (ag sp n 0)) hn (nM rfl);obtain⟨q1,q2⟩:=dP q;obtain⟨m,e⟩:=Int.eq_ofNat_of_zero_le q;have e':spI sp (ag sp n 0)=m:=e;rw[e]at q1 q2;have:=F.ss m n (by omega) hn (of_decide_eq_true q2);rw[e',this]
 refine ew ?_;unfold smS;rw[cn,cn]
 constructor
 ·intro h i i0 i1;unfold msA;rw[cn];intro k k0 k1;obtain⟨ii,rfl⟩:=Int.eq_ofNat_of_zero_le i0;obtain⟨kk,rfl⟩:=Int.eq_ofNat_of_zero_le k0;have hx:hasB (fpg es (ag sp ii 0)) (ag (fpg es (ag sp ii 0)) kk 0)=true:=yK.2 ⟨kk,by omega,rfl⟩;generalize hX:ag (fpg es (ag sp ii 0)) kk 0=x at hx;obtain⟨c1,c2,c3,c4,c5⟩:=sQ.1 hx;have hp:=(mp x c2 c3).1 c4;unfold qL at hp;rw[List.mem_append,jD,iq]at hp;unfold GJ;rw[hX];rcases hp with⟨n,n1,rfl⟩|⟨j,j1,e1,e2⟩
  ·rw[sat n n1];rcases Nat.lt_trichotomy n ii with c|c|c
   ·have q:=cn.1 (h ii (by omega) i1) n (by omega) (by omega);unfold EH at q;rw[c5,decide_eq_true rfl]at q;rw[show sB sp ii n=true from by simpa using q,decide_eq_true (p:=(0:Int)<=n) (by omega)];simp
   ·rw[c,decide_eq_true rfl];rfl
   ·have q:=cn.1 (h n (by omega) (by omega)) ii (by omega) (by omega);unfold EH at q;rw[c5,decide_eq_true rfl]at q;have q':sB sp n ii=true:=by simpa using q
    rw[GX,q',decide_eq_true (p:=(0:Int)<=n) (by omega)];simp
  ·exfalso;have t:=fM (F.l j j1);have b:=gf t.1;have q:=cM h2 j j1;unfold xS at q;simp only[Bool.and_eq_true]at q;have q2:=cn.1 q.2 (x-ag lg j 0) (by omega) (by omega);rw[show ag lg j 0+(x-ag lg j 0)=x from by omega]at q2;have q3:=of_decide_eq_true q2;have s1:=spm ii (by omega);have a1:hasB (fpg es x) x=true:=sQ.2 ⟨c4,c2,c3,c4,rfl⟩;have a2:hasB (fpg es x) (ag sp ii 0)=true:=sQ.2 ⟨c4,s1.1,s1.2.1,s1.2.2,c5.symm⟩;obtain⟨u,u1,u2⟩:=yK.1 a1;obtain⟨v,v1,v2⟩:=yK.1 a2;have:u=v:=by omega
   subst this;rw[u2]at v2;exact F.sl ii j (by omega) j1 (by omega) (by omega)
 ·intro h i i0 i1;unfold GO;rw[cn];intro j j0 j1;obtain⟨ii,rfl⟩:=Int.eq_ofNat_of_zero_le i0;obtain⟨jj,rfl⟩:=Int.eq_ofNat_of_zero_le j0;unfold EH;by_cases c:peF es (ag sp ii 0)=peF es (ag sp jj 0)
  case neg=>rw[decide_eq_false c];rfl
  have s1:=spm ii (by omega);have s2:=spm jj (by omega);have a:hasB (fpg es (ag sp ii 0)) (ag sp jj 0)=true:=sQ.2 ⟨s1.2.2,s2.1,s2.2.1,s2.2.2,c.symm⟩;obtain⟨k,k1,k2⟩:=yK.1 a;have q:=h ii (by omega) i1;unfold msA at q;have q:=cM q k k1;unfold GJ at q;rw[k2,sat jj (by omega),decide_eq_false (p:=(jj:Int)=ii) (by omega)]at q;simp only[Bool.false_or,Bool.and_eq_true]at q;rw[q.2,Bool.or_true]
end
end Go.V
namespace Go.V
def jobZ (k m:Int)(cs:aa)(ph nx:Int):Bool:=decide (ph=0)&&(decide (nx=0)&&(decide (k=0)&&(decide (m=0)&&decide (cs.length=0))))
def vi (sp:aa)(me:Bool)(k m:Int)(cs:aa)(ph nx:Int):Bool:=
 bif me then(jbOk k m cs ph nx&&(decide (0<=spI sp k)&&decide (0<=spI sp m)))else jobZ k m cs ph nx
def Kl (cs:aa)(i:Int):Bool:=caOk (aR cs i 0)
def hpI (a0 a1 a2:aa)(a3:Int)(a4 a5 a6 a7 a8 a9 aA aB:aa)(aC:Int)(aD:aa)(aE aF aG aH:Int)(aI:Bool)(aJ aK:Int)(aL:aa)(aM aN:Int):Bool:=
 kerOk a0 a1 a2 a3 a4&&(rgOk a2.length a5&&(layOk a6 a7&&(pgI a2 a5 a6 a7&&(mailOk aA aB&&(decide (a9.length=aA.length)&&(quarOk aC aD&&(ce (Kl a9) a9.length&&
  (objOk a6 a7 a8 a9 aH&&(hoI a6 a7 a8 a9 aA aB aD aF&&(inR aE 0 1073741823&&(inR aF 0 1000000&&(inR aG 0 1000&&(inR aH 1 1000000&&vi a6 aI aJ aK aL aM aN)))))))))))))
structure E4 (a0 a1 a2 a4 a5 a6 a7 a8 a9 aA aB aD aL:aa):Prop where
 n:zX a6 a7 a8 a9 aA aB aD
 c:Rw [.sl [tI]] a0
 u:Rw [tB] a1
 e:Rw [tI,tI] a2
 el:a2.length<=1073741824
 r:Rw [tI] a4
 f:Rw [tI,tI] a5
 fl:a5.length<=1073741824
 j:Rw [tI] aL
 jl:aL.length<=1073741824
section
variable {a0 a1 a2 : aa} {a3 : Int} {a4 a5 a6 a7 a8 a9 aA aB : aa} {aC : Int} {aD : aa} {aE aF aG aH : Int} {aI : Bool} {aJ aK : Int} {aL : aa} {aM aN : Int} {i : Int}
theorem PM (h:kerOk a0 a1 a2 a3 a4=false):hpI a0 a1 a2 a3 a4 a5 a6 a7 a8 a9 aA aB aC aD aE aF aG aH aI aJ aK aL aM aN=false:=by unfold hpI;rw[h];simp
theorem PS (h:rgOk a2.length a5=false):hpI a0 a1 a2 a3 a4 a5 a6 a7 a8 a9 aA aB aC aD aE aF aG aH aI aJ aK aL aM aN=false:=by unfold hpI;rw[h];simp
theorem PN (h:layOk a6 a7=false):hpI a0 a1 a2 a3 a4 a5 a6 a7 a8 a9 aA aB aC aD aE aF aG aH aI aJ aK aL aM aN=false:=by unfold hpI;rw[h];simp
theorem MO (h:pgI a2 a5 a6 a7=false):hpI a0 a1 a2 a3 a4 a5 a6 a7 a8 a9 aA aB aC aD aE aF aG aH aI aJ aK aL aM aN=false:=by unfold hpI;rw[h];simp
theorem PO (h:mailOk aA aB=false):hpI a0 a1 a2 a3 a4 a5 a6 a7 a8 a9 aA aB aC aD aE aF aG aH aI aJ aK aL aM aN=false:=by unfold hpI;rw[h];simp
theorem T8 (h:decide (a9.length=aA.length)=false):hpI a0 a1 a2 a3 a4 a5 a6 a7 a8 a9 aA aB aC aD aE aF aG aH aI aJ aK aL aM aN=false:=by unfold hpI;rw[h];simp
theorem PR (h:quarOk aC aD=false):hpI a0 a1 a2 a3 a4 a5 a6 a7 a8 a9 aA aB aC aD aE aF aG aH aI aJ aK aL aM aN=false:=by unfold hpI;rw[h];simp
theorem T7 (h:ce (Kl a9) a9.length=false):hpI a0 a1 a2 a3 a4 a5 a6 a7 a8 a9 aA aB aC aD aE aF aG aH aI aJ aK aL aM aN=false:=by unfold hpI;rw[h];simp
theorem MN (h:objOk a6 a7 a8 a9 aH=false):hpI a0 a1 a2 a3 a4 a5 a6 a7 a8 a9 aA aB aC aD aE aF aG aH aI aJ aK aL aM aN=false:=by unfold hpI;rw[h];simp
theorem MM (h:hoI a6 a7 a8 a9 aA aB aD aF=false):hpI a0 a1 a2 a3 a4 a5 a6 a7 a8 a9 aA aB aC aD aE aF aG aH aI aJ aK aL aM aN=false:=by unfold hpI;rw[h];simp
theorem PU (h:inR aE 0 1073741823=false):hpI a0 a1 a2 a3 a4 a5 a6 a7 a8 a9 aA aB aC aD aE aF aG aH aI aJ aK aL aM aN=false:=by unfold hpI;rw[h];simp
theorem PW (h:inR aF 0 1000000=false):hpI a0 a1 a2 a3 a4 a5 a6 a7 a8 a9 aA aB aC aD aE aF aG aH aI aJ aK aL aM aN=false:=by unfold hpI;rw[h];simp
theorem PX (h:inR aG 0 1000=false):hpI a0 a1 a2 a3 a4 a5 a6 a7 a8 a9 aA aB aC aD aE aF aG aH aI aJ aK aL aM aN=false:=by unfold hpI;rw[h];simp
theorem PY (h:inR aH 1 1000000=false):hpI a0 a1 a2 a3 a4 a5 a6 a7 a8 a9 aA aB aC aD aE aF aG aH aI aJ aK aL aM aN=false:=by unfold hpI;rw[h];simp
theorem KN (h:(a9.length:Int)≠aA.length):hpI a0 a1 a2 a3 a4 a5 a6 a7 a8 a9 aA aB aC aD aE aF aG aH aI aJ aK aL aM aN=false:=T8 (decide_eq_false (by omega))
theorem KM (i0:0<=i)(i1:i<a9.length)(h:caOk (aR a9 i 0)=false):hpI a0 a1 a2 a3 a4 a5 a6 a7 a8 a9 aA aB aC aD aE aF aG aH aI aJ aK aL aM aN=false:=T7 (bM i0 i1 h)
theorem F8 (hk:kerOk a0 a1 a2 a3 a4=true)(hr:rgOk a2.length a5=true)(hl:layOk a6 a7=true)(hp:pgI a2 a5 a6 a7=true)(hm:mailOk aA aB=true)(hn:decide (a9.length=aA.length)=true)(hq:quarOk aC aD=true)(hc:ce (Kl a9) a9.length=true)(ho:objOk a6 a7 a8 a9 aH=true)(hh:hoI a6 a7 a8 a9 aA aB aD aF=true)(hs:inR aE 0 1073741823=true)(ht:inR aF 0 1000000=true)(hw:inR aG 0 1000=true)(hx:inR aH 1 1000000=true):hpI a0 a1 a2 a3 a4 a5 a6 a7 a8 a9 aA aB aC aD aE aF aG aH aI aJ aK aL aM aN=vi a6 aI aJ aK aL aM aN:=by unfold hpI;rw[hk,hr,hl,hp,hm,hn,hq,hc,ho,hh,hs,ht,hw,hx];rfl
structure VR (a0 a1 a2:aa)(a3:Int)(a4 a5 a6 a7 a8 a9 aA aB:aa)(aC:Int)(aD:aa)(aE aF aG aH:Int)(aI:Bool)(aJ aK:Int)(aL:aa)(aM aN:Int):Prop where
 k:kerOk a0 a1 a2 a3 a4=true
 r:rgOk a2.length a5=true
 l:layOk a6 a7=true
 p:pgI a2 a5 a6 a7=true
 m:mailOk aA aB=true
 n:decide (a9.length=aA.length)=true
 q:quarOk aC aD=true
 c:ce (Kl a9) a9.length=true
 o:objOk a6 a7 a8 a9 aH=true
 h:hoI a6 a7 a8 a9 aA aB aD aF=true
 s:inR aE 0 1073741823=true
 t:inR aF 0 1000000=true
 w:inR aG 0 1000=true
 x:inR aH 1 1000000=true
 j:vi a6 aI aJ aK aL aM aN=true
theorem mf (h:hpI a0 a1 a2 a3 a4 a5 a6 a7 a8 a9 aA aB aC aD aE aF aG aH aI aJ aK aL aM aN=true):VR a0 a1 a2 a3 a4 a5 a6 a7 a8 a9 aA aB aC aD aE aF aG aH aI aJ aK aL aM aN:=by
 unfold hpI at h;simp only[Bool.and_eq_true]at h;obtain⟨hk,hr,hl,hp,hm,hn,hq,hc,ho,hh,hs,ht,hw,hx,hj⟩:=h;exact⟨hk,hr,hl,hp,hm,hn,hq,hc,ho,hh,hs,ht,hw,hx,hj⟩
theorem KR (h:jbOk aJ aK aL aM aN=false):false=vi a6 true aJ aK aL aM aN:=by unfold vi;rw[h];rfl
theorem KS (h:spI a6 aJ<0):false=vi a6 true aJ aK aL aM aN:=by unfold vi;rw[decide_eq_false (p:=0<=spI a6 aJ) (by omega)];simp
theorem KT (h:jbOk aJ aK aL aM aN=true)(g:0<=spI a6 aJ):cD .geq (spI a6 aK) 0=vi a6 true aJ aK aL aM aN:=by unfold vi;rw[h,decide_eq_true g];rfl
theorem R7 (h:ce (sA aD aF) aD.length=false)(hl:layOk a6 a7=true)(ho:objOk a6 a7 a8 a9 aH=true):hoI a6 a7 a8 a9 aA aB aD aF=false:=by rw[F3 hl ho,h,Bool.and_false]
theorem PV (i0:0<=i)(i1:i<aD.length)(h:aF<ag aD i 2)(hl:layOk a6 a7=true):hpI a0 a1 a2 a3 a4 a5 a6 a7 a8 a9 aA aB aC aD aE aF aG aH aI aJ aK aL aM aN=false:=by
 by_cases ho:objOk a6 a7 a8 a9 aH=true
 ·exact MM (R7 (bM i0 i1 (by unfold sA;exact decide_eq_false (by omega))) hl ho)
 ·exact MN (by simpa using ho)
theorem PQ (hl:layOk a6 a7=true)(h:pgS a2 a5 a6 a7=false):hpI a0 a1 a2 a3 a4 a5 a6 a7 a8 a9 aA aB aC aD aE aF aG aH aI aJ aK aL aM aN=false:=MO (by rw[Hk hl,h];rfl)
theorem PP (hl:layOk a6 a7=true)(h:smS a2 a6=false):hpI a0 a1 a2 a3 a4 a5 a6 a7 a8 a9 aA aB aC aD aE aF aG aH aI aJ aK aL aM aN=false:=MO (by rw[Hk hl,h,Bool.and_false])
theorem PL (hl:layOk a6 a7=true)(ho:objOk a6 a7 a8 a9 aH=true)(h:hoS a6 a7 a8 a9 aA aB aD=false):hpI a0 a1 a2 a3 a4 a5 a6 a7 a8 a9 aA aB aC aD aE aF aG aH aI aJ aK aL aM aN=false:=MM (by rw[F3 hl ho,h];rfl)
theorem UC (hl:layOk a6 a7=true)(h:pgS a2 a5 a6 a7=true)(g:smS a2 a6=true):pgI a2 a5 a6 a7=true:=by rw[Hk hl,h,g];rfl
theorem T6 (hl:layOk a6 a7=true)(ho:objOk a6 a7 a8 a9 aH=true)(h:hoS a6 a7 a8 a9 aA aB aD=true)(i2:(aD.length:Int)<=i)(g:upto (sA aD aF) i):hoI a6 a7 a8 a9 aA aB aD aF=true:=by rw[F3 hl ho,h,bB g i2];rfl
theorem U7 (h:ag aD i 2<=aF):sA aD aF i=true:=decide_eq_true h
end
end Go.V
namespace Go.V
def obD (a s ad:Int):Bool:=inR ad a (bF .sub .i64 (bF .add .i64 a s) 1)
def EJ (os:aa)(ad j:Int):Bool:=obD (ag os j 1) (ag os j 2) ad
def ofI (os:aa)(ad:Int):Int:=cE (EJ os ad) os.length
def ooI (b:Bool)(os:aa)(ad:Int):Int:=if b=true then ofI os ad else-1
theorem Q3 {b:Bool}{os:aa}{ad:Int}(h:b=false):ooI b os ad= -1:=by subst h;rfl
theorem UB {b:Bool}{os:aa}{ad:Int}(h:b=true):ooI b os ad=ofI os ad:=by subst h;rfl
theorem Q0 {sp lg:aa}{a s:Int}(h:okO sp lg a s=true):0<=a/\a<=2000/\1<=s/\s<=1000:=by
 unfold okO at h;simp only[Bool.and_eq_true,Bool.or_eq_true,decide_eq_true_eq]at h;obtain⟨_,⟨k,c⟩|⟨k,c⟩⟩:=h
 ·have e:=Ax k;have q:0<=gn sp a:=by
   unfold dnK at k;by_cases w:0<=gn sp a
   ·exact w
   ·rw[if_neg w]at k;split at k<;>omega
  have t:=(dP q).2;change xh sp a (gn sp a)=true at t;obtain⟨t1,t2,t3⟩:=vM.1 (A6.1 t);have hs:=hZ t1;have hk:=bE.1 hs.2.2.1;have w:dnI sp lg a=gn sp a:=by unfold dnI;rw[if_pos q]
  rw[w]at c;have b:=Ko (s:=s) (by omega);omega
 ·have q:¬ 0<=gn sp a:=fun w=>by
   unfold dnK at k;rw[if_pos w]at k;split at k<;>omega
  have g:0<=lz lg a:=by
   unfold dnK at k;rw[if_neg q]at k;by_cases w:0<=lz lg a
   ·exact w
   ·rw[if_neg w]at k;omega
  have t:=(dP g).2;change xd lg a (lz lg a)=true at t;have w:dnI sp lg a=lz lg a:=by unfold dnI;rw[if_neg q,if_pos g]
  rw[w]at c;unfold xd lhB at t;rw[Bool.and_eq_true]at t;obtain⟨t1,t2,t3,t4⟩:=fM t.1;have u:=bE.1 t.2;have v:=bE.1 t1;have pf:0<=ag lg (lz lg a) 1:=by rw[t2];unfold pfN;split<;>omega
  omega
theorem QX {sp lg os cs:aa}{nx i:Int}(h:objOk sp lg os cs nx=true)(i0:0<=i)(i1:i<os.length):0<=ag os i 1/\ag os i 1<=2000/\1<=ag os i 2/\ag os i 2<=1000:=by
 have t:=cn.1 h i i0 i1;unfold wi at t;simp only[Bool.and_eq_true]at t;exact Q0 t.2.2.2.2
structure J9 (os:aa):Prop where
 w:Rw [tI,tI,tI,tI] os
 l:os.length<=1099511627776
 b:∀ i:Int,0<=i->i<os.length->0<=ag os i 1/\ag os i 1<=2000/\1<=ag os i 2/\ag os i 2<=1000
theorem Cg {os:aa}(O:J9 os){i:Int}(i0:0<=i)(i1:i<os.length):bF .add .i64 (ag os i 1) (ag os i 2)=ag os i 1+ag os i 2/\bF .sub .i64 (bF .add .i64 (ag os i 1) (ag os i 2)) 1=ag os i 1+ag os i 2-1:=by
 have b:=O.b i i0 i1;have e:bF .add .i64 (ag os i 1) (ag os i 2)=ag os i 1+ag os i 2:=bc (by omega);exact⟨e,by rw[e,cR (by omega)]⟩
theorem Uy {os:aa}{ad i:Int}(O:J9 os)(i0:0<=i)(i1:i<os.length)(h:ad<ag os i 1\/bF .add .i64 (ag os i 1) (ag os i 2)<=ad):EJ os ad i=false:=by
 have e:=Cg O i0 i1;unfold EJ obD;rw[e.2];rw[e.1]at h;cases c:inR ad (ag os i 1) (ag os i 1+ag os i 2-1)with
 |false=>rfl
 |true=>have:=bE.1 c;omega
theorem Uz {os:aa}{ad i:Int}(O:J9 os)(i0:0<=i)(i1:i<os.length)(g:ag os i 1<=ad)(h:ad<bF .add .i64 (ag os i 1) (ag os i 2)):EJ os ad i=true:=by
 have e:=Cg O i0 i1;unfold EJ obD;rw[e.2];rw[e.1]at h;exact bE.2 ⟨g,by omega⟩
theorem G3 {a0 a1 a2:aa}{a3:Int}{a4 a5 a6 a7 a8 a9 aA aB:aa}{aC:Int}{aD:aa}{aE aF aG aH:Int}{aI:Bool}{aJ aK:Int}{aL:aa}{aM aN:Int}(w:Rw [tI,tI,tI,tI] a8)(l:a8.length<=1099511627776)(h:hpI a0 a1 a2 a3 a4 a5 a6 a7 a8 a9 aA aB aC aD aE aF aG aH aI aJ aK aL aM aN=true):J9 a8:=
 ⟨w,l,fun i i0 i1=>QX (mf h).o i0 i1⟩
end Go.V
namespace Go.V
end Go.V
namespace Go.V
end Go.V
namespace Go.V
theorem Kt {sp lg:aa}{a:Int}(h:dnK sp lg a=1):dnI sp lg a=gn sp a/\0<=gn sp a/\gn sp a<sp.length/\A7 (ag sp (gn sp a) 0) (ag sp (gn sp a) 1) (ag sp (gn sp a) 2) a=true:=by
 have q:0<=gn sp a:=by
  unfold dnK at h;by_cases w:0<=gn sp a
  ·exact w
  ·rw[if_neg w]at h;split at h<;>omega
 have t:=dP q;change gn sp a<sp.length/\xh sp a (gn sp a)=true at t;exact⟨by unfold dnI;rw[if_pos q],q,t.1,A6.1 t.2⟩
end Go.V
namespace Go.V
end Go.V
namespace Go.V
structure VV (es fr sp lg:aa):Prop where
 l:∀ j:Nat,j<lg.length->∀ q:Int,ag lg j 0<=q->q<ag lg j 0+ag lg j 1->(fpg es q).length=1
 m:∀ q:Int,0<=q->q<es.length->(peM es q≠0↔q∈qL sp lg)
 o:∀ q∈qL sp lg,q<es.length
 c:∀ i j:Nat,i<sp.length->j<sp.length->peF es (ag sp i 0)=peF es (ag sp j 0)->ag sp i 1=ag sp j 1
theorem VI {es fr sp lg:aa}(h:pgI es fr sp lg=true):VV es fr sp lg:=by
 unfold pgI at h;simp only[Bool.and_eq_true]at h;obtain⟨h1,h2,h3,h4,h5⟩:=h;have half:∀ i j:Nat,i<sp.length->j<i->peF es (ag sp i 0)=peF es (ag sp j 0)->ag sp i 1=ag sp j 1:=fun i j hi hj e=>by
  have a:=cM h5 i hi;unfold GO at a;have b:=cM a j (by omega);unfold EH at b;rw[decide_eq_true e]at b;simp only[Bool.not_true,Bool.false_or]at b;unfold sB mshB at b;simp only[Bool.and_eq_true,decide_eq_true_eq]at b;exact b.2.2.1
 refine⟨fun j hj q q0 q1=>?_,fun q q0 q1=>?_,of_decide_eq_true h4,fun i j hi hj e=>?_⟩
 ·have a:=cM h2 j hj;unfold xS at a;rw[Bool.and_eq_true]at a;have b:=cM a.2 (q-ag lg j 0).toNat (by omega);unfold KC at b;rw[show ag lg j 0+((q-ag lg j 0).toNat:Int)=q by omega]at b;exact of_decide_eq_true b
 ·have a:=cM h3 q.toNat (by omega);rw[Int.toNat_of_nonneg q0]at a;unfold wX at a;rw[Bool.and_eq_true]at a;have b:=eq_of_beq a.1;unfold mapB ownB at b;by_cases c:peM es q≠0
  ·rw[decide_eq_true c]at b;exact⟨fun _=>of_decide_eq_true b.symm,fun _=>c⟩
  ·rw[decide_eq_false c]at b;exact⟨fun x=>absurd x c,fun x=>absurd x (of_decide_eq_false b.symm)⟩
 ·by_cases c:i=j
  ·rw[c]
  ·by_cases d:j<i
   ·exact half i j hi d e
   ·exact(half j i hj (by omega) e.symm).symm
end Go.V
namespace Go.V
def VJ (sp lg fl:aa):Nat->Int
 |0=>0
 |n+1=>VJ sp lg fl n+clsSz (ag sp (dnI sp lg (ag fl n 0)) 1)
def V3 (s:Int):Int:=if 0<=clsOf s then clsSz (clsOf s)else s
def VD (os:aa):Nat->Int
 |0=>0
 |n+1=>VD os n+V3 (ag os n 2)
end Go.V
namespace Go.V
theorem Pf {k:Int}(h:inR k 0 3=true):clsSz k=1\/clsSz k=2\/clsSz k=4\/clsSz k=8:=by
 have:=bE.1 h;unfold clsSz;repeat' split<;>omega
theorem IU {c d:Int}(hc:c=1\/c=2\/c=4\/c=8)(d0:0<=d)(d1:d<=15)(h:d%c=0):d+c<=16:=by
 rcases hc with rfl|rfl|rfl|rfl<;>omega
theorem NJ {es fr sp lg:aa}{a s i:Int}(hl:layOk sp lg=true)(hp:pgI es fr sp lg=true)(h:okO sp lg a s=true)(i0:0<=i)(i1:i<s):0<=(a+i)/16/\(a+i)/16<es.length/\peM es ((a+i)/16)≠0:=by
 have F:=Jc hl;have T:=VI hp
 suffices h:0<=(a+i)/16/\(a+i)/16∈qL sp lg from⟨h.1,T.o _ h.2,(T.m _ h.1 (T.o _ h.2)).2 h.2⟩
 unfold okO at h;simp only[Bool.and_eq_true,Bool.or_eq_true,decide_eq_true_eq]at h;obtain⟨o,⟨k,c⟩|⟨k,c⟩⟩:=h
 ·obtain⟨e,q,l,t⟩:=Kt k;obtain⟨t1,t2,t3⟩:=vM.1 t;obtain⟨e1,e2⟩:=pU t;have hs:=hZ t1;rw[e]at c;have b:=Ko (s:=s) (by have:=bE.1 hs.2.2.1;omega);rw[<-c]at b;have o':Lw sp a (gn sp a)=0:=by rw[<- (Mq (lg:=lg) q).2];exact o
  unfold Lw at o';rw[e2]at o';have fit:=IU (Pf hs.2.2.1) (by omega) (by omega) o';have p:(a+i)/16=ag sp (gn sp a) 0:=by omega
  rw[p];refine⟨hs.1,List.mem_append.2 (.inl (jD.2 ⟨(gn sp a).toNat,by omega,?_⟩))⟩;rw[Int.toNat_of_nonneg q]
 ·have q:¬ 0<=gn sp a:=fun w=>by
   unfold dnK at k;rw[if_pos w]at k;split at k<;>omega
  have g:0<=lz lg a:=by
   unfold dnK at k;rw[if_neg q]at k;by_cases w:0<=lz lg a
   ·exact w
   ·rw[if_neg w]at k;omega
  have t:=dP g;change lz lg a<lg.length/\xd lg a (lz lg a)=true at t;have w:dnI sp lg a=lz lg a:=by unfold dnI;rw[if_neg q,if_pos g]
  rw[w]at c;rw[(Mp q g).2]at o;obtain⟨tl,tt⟩:=t;unfold Qt loI at o;unfold xd at tt;rw[if_pos tt]at o;unfold lhB at tt;rw[Bool.and_eq_true]at tt;obtain⟨t1,t2,t3,t4⟩:=fM tt.1;have v:ag lg (lz lg a) 1=(ag lg (lz lg a) 2+15)/16:=by rw[t2];unfold pfN;rw[if_pos t1]
  refine⟨by omega,List.mem_append.2 (.inr (iq.2 ⟨(lz lg a).toNat,by omega,?_,?_⟩))⟩
  ·rw[Int.toNat_of_nonneg g];omega
  ·rw[Int.toNat_of_nonneg g];omega
end Go.V
namespace Go.V
def V0 (cs es:aa)(a:Int):Int:=ag (aR cs (peF es (a/16)) 0) (a%16) 0
def Vr (cs es:aa)(a:Int):Nat->aa
 |0=>[]
 |n+1=>Vr cs es a n++[[.i (V0 cs es (a+n))]]
structure V8 (cs es:aa)(a i:Int)(o:aa):Prop where
 e:o=Vr cs es a i.toNat
structure Wh (cs es os:aa):Prop where
 b:J9 os
 f:∀ j:Int,0<=j->j<os.length->∀ i:Int,0<=i->i<ag os j 2->0<=peF es ((ag os j 1+i)/16)/\peF es ((ag os j 1+i)/16)<cs.length/\(aR cs (peF es ((ag os j 1+i)/16)) 0).length=16
end Go.V
namespace Go.V
end Go.V
namespace Go.V
def JD (k b:Int):Nat->aa
 |0=>[]
 |n+1=>if hsB b ((n:Int)/clsSz k)=true then JD k b n++[[.i n]]else JD k b n
def Va (p k b:Int):aa:=if spOk p k b=true then JD k b 16 else[]
structure VW (k b i:Int)(o:aa):Prop where
 e:o=JD k b i.toNat
def U8 (sp:aa):Nat->Int
 |0=>0
 |n+1=>U8 sp n+(Va (ag sp n 0) (ag sp n 1) (ag sp n 2)).length
def Vy (lg:aa):Nat->Int
 |0=>0
 |n+1=>Vy lg n+ag lg n 2
def Mj (ls:aa):Nat->Int
 |0=>0
 |n+1=>Mj ls n+(aR ls n 0).length*clsSz n
end Go.V
namespace Go.V
structure Wb (f:Int->Bool)(o:aa):Prop where
 w:Rw [tB] o
 l:o.length=16
 v:∀ c:Int,0<=c->c<16->nT o c 0=f c
end Go.V
namespace Go.V
def VZ (ls:aa):Int:=if caOk ls=true then Mj ls ls.length else 0
structure VP (ls:aa)(i t:Int):Prop where
 e:t=Mj ls i.toNat
def Vp (cs:aa):Nat->Int
 |0=>0
 |n+1=>Vp cs n+VZ (aR cs n 0)
structure V6 (cs:aa)(i t:Int):Prop where
 e:t=Vp cs i.toNat
structure Wi (os:aa)(i t:Int):Prop where
 e:t=VD os i.toNat
structure Wj (sp lg fl:aa)(i t:Int):Prop where
 e:t=VJ sp lg fl i.toNat
structure VX (sp:aa)(i t:Int):Prop where
 e:t=U8 sp i.toNat
structure VU (sp lg:aa)(i t:Int):Prop where
 e:t=U8 sp sp.length+Vy lg i.toNat
def zlI (es:aa):Int:=es.length
end Go.V
namespace Go.V
section
variable {r0 r1 r2 r3 r4 r5 r6 r7 r8 r9 r10 r11 r12 : aa}
theorem xv {n:Nat}(h:aw [r0,r1,r2,r3,r4,r5,r6,r7,r8,r9,r10,r11,r12]<=n):ah r0<=n/\ah r1<=n/\ah r2<=n/\ah r3<=n/\ah r4<=n/\ah r5<=n/\ah r6<=n/\ah r7<=n/\ah r8<=n/\ah r9<=n/\ah r10<=n/\ah r11<=n/\ah r12<=n:=⟨dO h (by simp),dO h (by simp),dO h (by simp),dO h (by simp),dO h (by simp),dO h (by simp),dO h (by simp),dO h (by simp),dO h (by simp),dO h (by simp),dO h (by simp),dO h (by simp),dO h (by simp)⟩
theorem DJ (h0:Rw [.sl [tI]] r0)(h1:Rw [tB] r1)(h2:Rw [tI,tI] r2)(h3:Rw [tI] r3)(h4:Rw [tI,tI] r4)(h5:Rw [tI,tI,tI] r5)(h6:Rw [tI,tI,tI] r6)(h7:Rw [tI,tI,tI,tI] r7)(h8:Rw [.sl [.sl [tI]]] r8)(h9:Rw [.sl [tI,tI]] r9)(h10:Rw [.sl [tI]] r10)(h11:Rw [tI,tI,tI] r11)(h12:Rw [tI] r12)(hc:aw [r0,r1,r2,r3,r4,r5,r6,r7,r8,r9,r10,r11,r12]<=1099511627776):ao [r0,r1,r2,r3,r4,r5,r6,r7,r8,r9,r10,r11,r12] 1<=1152921504606846976:=GK (by intro r hr;simp only[List.mem_cons,List.not_mem_nil,or_false]at hr;rcases hr with rfl|rfl|rfl|rfl|rfl|rfl|rfl|rfl|rfl|rfl|rfl|rfl|rfl;exact h0.marks (by decide);exact h1.marks (by decide);exact h2.marks (by decide);exact h3.marks (by decide);exact h4.marks (by decide);exact h5.marks (by decide);exact h6.marks (by decide);exact h7.marks (by decide);exact h8.marks (by decide);exact h9.marks (by decide);exact h10.marks (by decide);exact h11.marks (by decide);exact h12.marks (by decide)) hc
theorem Nx (h0:Rw [.sl [tI]] r0)(h1:Rw [tB] r1)(h2:Rw [tI,tI] r2)(h3:Rw [tI] r3)(h4:Rw [tI,tI] r4)(h5:Rw [tI,tI,tI] r5)(h6:Rw [tI,tI,tI] r6)(h7:Rw [tI,tI,tI,tI] r7)(h8:Rw [.sl [.sl [tI]]] r8)(h9:Rw [.sl [tI,tI]] r9)(h10:Rw [.sl [tI]] r10)(h11:Rw [tI,tI,tI] r11)(h12:Rw [tI] r12)(hc:aw [r0,r1,r2,r3,r4,r5,r6,r7,r8,r9,r10,r11,r12]<=1099511627776):ao [r0,r1,r2,r3,r4,r5,r6,r7,r8,r9,r10,r11,r12] 1<=1152921504606846976/\(am r1 (ao [r0] 1)=am r1 (ao [am r0 1] 1)/\am r2 (ao [r0,r1] 1)=am r2 (ao [am r0 1,am r1 (ao [r0] 1)] 1)/\am r3 (ao [r0,r1,r2] 1)=am r3 (ao [am r0 1,am r1 (ao [r0] 1),am r2 (ao [r0,r1] 1)] 1)/\am r4 (ao [r0,r1,r2,r3] 1)=am r4 (ao [am r0 1,am r1 (ao [r0] 1),am r2 (ao [r0,r1] 1),am r3 (ao [r0,r1,r2] 1)] 1)/\am r5 (ao [r0,r1,r2,r3,r4] 1)=am r5 (ao [am r0 1,am r1 (ao [r0] 1),am r2 (ao [r0,r1] 1),am r3 (ao [r0,r1,r2] 1),am r4 (ao [r0,r1,r2,r3] 1)] 1)/\am r6 (ao [r0,r1,r2,r3,r4,r5] 1)=am r6 (ao [am r0 1,am r1 (ao [r0] 1),am r2 (ao [r0,r1] 1),am r3 (ao [r0,r1,r2] 1),am r4 (ao [r0,r1,r2,r3] 1),am r5 (ao [r0,r1,r2,r3,r4] 1)] 1)/\am r7 (ao [r0,r1,r2,r3,r4,r5,r6] 1)=am r7 (ao [am r0 1,am r1 (ao [r0] 1),am r2 (ao [r0,r1] 1),am r3 (ao [r0,r1,r2] 1),am r4 (ao [r0,r1,r2,r3] 1),am r5 (ao [r0,r1,r2,r3,r4] 1),am r6 (ao [r0,r1,r2,r3,r4,r5] 1)] 1)/\am r8 (ao [r0,r1,r2,r3,r4,r5,r6,r7] 1)=am r8 (ao [am r0 1,am r1 (ao [r0] 1),am r2 (ao [r0,r1] 1),am r3 (ao [r0,r1,r2] 1),am r4 (ao [r0,r1,r2,r3] 1),am r5 (ao [r0,r1,r2,r3,r4] 1),am r6 (ao [r0,r1,r2,r3,r4,r5] 1),am r7 (ao [r0,r1,r2,r3,r4,r5,r6] 1)] 1)/\am r9 (ao [r0,r1,r2,r3,r4,r5,r6,r7,r8] 1)=am r9 (ao [am r0 1,am r1 (ao [r0] 1),am r2 (ao [r0,r1] 1),am r3 (ao [r0,r1,r2] 1),am r4 (ao [r0,r1,r2,r3] 1),am r5 (ao [r0,r1,r2,r3,r4] 1),am r6 (ao [r0,r1,r2,r3,r4,r5] 1),am r7 (ao [r0,r1,r2,r3,r4,r5,r6] 1),am r8 (ao [r0,r1,r2,r3,r4,r5,r6,r7] 1)] 1)/\am r10 (ao [r0,r1,r2,r3,r4,r5,r6,r7,r8,r9] 1)=am r10 (ao [am r0 1,am r1 (ao [r0] 1),am r2 (ao [r0,r1] 1),am r3 (ao [r0,r1,r2] 1),am r4 (ao [r0,r1,r2,r3] 1),am r5 (ao [r0,r1,r2,r3,r4] 1),am r6 (ao [r0,r1,r2,r3,r4,r5] 1),am r7 (ao [r0,r1,r2,r3,r4,r5,r6] 1),am r8 (ao [r0,r1,r2,r3,r4,r5,r6,r7] 1),am r9 (ao [r0,r1,r2,r3,r4,r5,r6,r7,r8] 1)] 1)/\am r11 (ao [r0,r1,r2,r3,r4,r5,r6,r7,r8,r9,r10] 1)=am r11 (ao [am r0 1,am r1 (ao [r0] 1),am r2 (ao [r0,r1] 1),am r3 (ao [r0,r1,r2] 1),am r4 (ao [r0,r1,r2,r3] 1),am r5 (ao [r0,r1,r2,r3,r4] 1),am r6 (ao [r0,r1,r2,r3,r4,r5] 1),am r7 (ao [r0,r1,r2,r3,r4,r5,r6] 1),am r8 (ao [r0,r1,r2,r3,r4,r5,r6,r7] 1),am r9 (ao [r0,r1,r2,r3,r4,r5,r6,r7,r8] 1),am r10 (ao [r0,r1,r2,r3,r4,r5,r6,r7,r8,r9] 1)] 1)/\am r12 (ao [r0,r1,r2,r3,r4,r5,r6,r7,r8,r9,r10,r11] 1)=am r12 (ao [am r0 1,am r1 (ao [r0] 1),am r2 (ao [r0,r1] 1),am r3 (ao [r0,r1,r2] 1),am r4 (ao [r0,r1,r2,r3] 1),am r5 (ao [r0,r1,r2,r3,r4] 1),am r6 (ao [r0,r1,r2,r3,r4,r5] 1),am r7 (ao [r0,r1,r2,r3,r4,r5,r6] 1),am r8 (ao [r0,r1,r2,r3,r4,r5,r6,r7] 1),am r9 (ao [r0,r1,r2,r3,r4,r5,r6,r7,r8] 1),am r10 (ao [r0,r1,r2,r3,r4,r5,r6,r7,r8,r9] 1),am r11 (ao [r0,r1,r2,r3,r4,r5,r6,r7,r8,r9,r10] 1)] 1))/\ao [am r0 1,am r1 (ao [r0] 1),am r2 (ao [r0,r1] 1),am r3 (ao [r0,r1,r2] 1),am r4 (ao [r0,r1,r2,r3] 1),am r5 (ao [r0,r1,r2,r3,r4] 1),am r6 (ao [r0,r1,r2,r3,r4,r5] 1),am r7 (ao [r0,r1,r2,r3,r4,r5,r6] 1),am r8 (ao [r0,r1,r2,r3,r4,r5,r6,r7] 1),am r9 (ao [r0,r1,r2,r3,r4,r5,r6,r7,r8] 1),am r10 (ao [r0,r1,r2,r3,r4,r5,r6,r7,r8,r9] 1),am r11 (ao [r0,r1,r2,r3,r4,r5,r6,r7,r8,r9,r10] 1),am r12 (ao [r0,r1,r2,r3,r4,r5,r6,r7,r8,r9,r10,r11] 1)] 1=ao [r0,r1,r2,r3,r4,r5,r6,r7,r8,r9,r10,r11,r12] 1/\(ah r0<=1099511627776/\ah r1<=1099511627776/\ah r2<=1099511627776/\ah r3<=1099511627776/\ah r4<=1099511627776/\ah r5<=1099511627776/\ah r6<=1099511627776/\ah r7<=1099511627776/\ah r8<=1099511627776/\ah r9<=1099511627776/\ah r10<=1099511627776/\ah r11<=1099511627776/\ah r12<=1099511627776):=
 ⟨DJ h0 h1 h2 h3 h4 h5 h6 h7 h8 h9 h10 h11 h12 hc,⟨congrArg _ (dk (rs:=[r0]) (k:=1) (k':=1)).symm,congrArg _ (dk (rs:=[r0,r1]) (k:=1) (k':=1)).symm,congrArg _ (dk (rs:=[r0,r1,r2]) (k:=1) (k':=1)).symm,congrArg _ (dk (rs:=[r0,r1,r2,r3]) (k:=1) (k':=1)).symm,congrArg _ (dk (rs:=[r0,r1,r2,r3,r4]) (k:=1) (k':=1)).symm,congrArg _ (dk (rs:=[r0,r1,r2,r3,r4,r5]) (k:=1) (k':=1)).symm,congrArg _ (dk (rs:=[r0,r1,r2,r3,r4,r5,r6]) (k:=1) (k':=1)).symm,congrArg _ (dk (rs:=[r0,r1,r2,r3,r4,r5,r6,r7]) (k:=1) (k':=1)).symm,congrArg _ (dk (rs:=[r0,r1,r2,r3,r4,r5,r6,r7,r8]) (k:=1) (k':=1)).symm,congrArg _ (dk (rs:=[r0,r1,r2,r3,r4,r5,r6,r7,r8,r9]) (k:=1) (k':=1)).symm,congrArg _ (dk (rs:=[r0,r1,r2,r3,r4,r5,r6,r7,r8,r9,r10]) (k:=1) (k':=1)).symm,congrArg _ (dk (rs:=[r0,r1,r2,r3,r4,r5,r6,r7,r8,r9,r10,r11]) (k:=1) (k':=1)).symm⟩,dk (rs:=[r0,r1,r2,r3,r4,r5,r6,r7,r8,r9,r10,r11,r12]) (k:=1) (k':=1),xv hc⟩
end
end Go.V
namespace Go.V
def Vs (b:aa)(f:Int):Int:=ag (aR b f 0) 0 0
structure V9 (b x:aa)(f:Int):Prop where
 m:mailOk b x=true
 f0:0<=f
 f1:f<b.length
 n:0<(aR b f 0).length
 t0:0<=Vs b f
 t1:Vs b f<b.length
 l:x.length=b.length
end Go.V
namespace Go.V
def hsC (k:Bool)(cs us es os:aa)(a v:Int):aa:=if 0<=ooI k os a then stC cs us es a v else cs
def hsK (k:Bool)(cs us es os:aa)(a v:Int):Int:=if 0<=ooI k os a then(if stK cs us es a v=2 then 2 else if stK cs us es a v=3 then 3 else 0)else 1
theorem Dj {k:Bool}{cs us es os:aa}{a v:Int}(h:ooI k os a<0):hsC k cs us es os a v=cs/\hsK k cs us es os a v=1:=by
 unfold hsC hsK;rw[if_neg (by omega),if_neg (by omega)];exact⟨rfl,rfl⟩
theorem pD {k:Bool}{cs us es os:aa}{a v:Int}(h:0<=ooI k os a):hsC k cs us es os a v=stC cs us es a v/\hsK k cs us es os a v=if stK cs us es a v=2 then 2 else if stK cs us es a v=3 then 3 else 0:=by
 unfold hsC hsK;rw[if_pos h,if_pos h];exact⟨rfl,rfl⟩
theorem MS {k:Bool}{cs us es os:aa}{a v:Int}(h:0<=ooI k os a)(q:stK cs us es a v=2):hsC k cs us es os a v=cs/\hsK k cs us es os a v=2:=by
 rw[(pD h).1,(pD h).2,if_pos q];refine⟨?_,rfl⟩;unfold stC;rw[if_neg (by omega)]
theorem MU {k:Bool}{cs us es os:aa}{a v:Int}(h:0<=ooI k os a)(q:stK cs us es a v=3):hsC k cs us es os a v=cs/\hsK k cs us es os a v=3:=by
 rw[(pD h).1,(pD h).2,if_neg (by omega),if_pos q];refine⟨?_,rfl⟩;unfold stC;rw[if_neg (by omega)]
theorem MR {k:Bool}{cs us es os:aa}{a v:Int}(h:0<=ooI k os a)(q:stK cs us es a v≠2)(r:stK cs us es a v≠3):hsC k cs us es os a v=stC cs us es a v/\hsK k cs us es os a v=0:=by
 rw[(pD h).1,(pD h).2,if_neg q,if_neg r];exact⟨rfl,rfl⟩
theorem MP {k:Bool}{cs us es os:aa}{a v:Int}(h:Rw [.sl [tI]] cs)(hv: -9223372036854775808<=v/\v<=9223372036854775807)(hc:ah cs<=1048576):Rw [.sl [tI]] (hsC k cs us es os a v)/\ah (hsC k cs us es os a v)<=2097152:=by
 unfold hsC;split
 ·refine⟨Od h hv,?_⟩;unfold stC;split
  ·rename_i q;have hm:smM cs us es a≠0:=fun e=>by rw[(JG e).1]at q;cases q
   have hf:=Ej hm;have:=ET (k:=a%16) (v:=v) h hf.1 hf.2.1;omega
  ·omega
 ·exact⟨h,by omega⟩
structure VT (cs us es:aa)(a:Int):Prop where
 a0:0<=a
 m:smM cs us es a=peM es (a/16)
 f:smF cs us es a=peF es (a/16)
 n:smM cs us es a≠0
section
variable {a0 a1 a2 : aa} {a3 : Int} {a4 a5 a6 a7 a8 a9 aA aB : aa} {aC : Int} {aD : aa} {aE aF aG aH : Int} {aI : Bool} {aJ aK : Int} {aL : aa} {aM aN : Int}
theorem Jd (h:hpI a0 a1 a2 a3 a4 a5 a6 a7 a8 a9 aA aB aC aD aE aF aG aH aI aJ aK aL aM aN=true):machOk a0 a1 a2=true:=by
 have k:=(mf h).k;unfold kerOk at k;simp only[Bool.and_eq_true]at k
 first|exact k.1|exact k.1.1
theorem MQ {ad:Int}(w:Rw [tI,tI,tI,tI] a8)(l:a8.length<=1099511627776)(h:hpI a0 a1 a2 a3 a4 a5 a6 a7 a8 a9 aA aB aC aD aE aF aG aH aI aJ aK aL aM aN=true)(g:0<=ofI a8 ad):VT a0 a1 a2 ad:=by
 have T:=mf h;have B:=G3 w l h;have p:=dP g;change ofI a8 ad<a8.length/\EJ a8 ad (ofI a8 ad)=true at p;have b:=B.b (ofI a8 ad) g p.1;have e:=Cg B g p.1;have q:=p.2;unfold EJ obD at q;rw[e.2]at q;have r:=bE.1 q;have o:=cn.1 T.o (ofI a8 ad) g p.1;unfold wi at o;simp only[Bool.and_eq_true]at o;have m:=NJ T.l T.p o.2.2.2.2 (i:=ad-ag a8 (ofI a8 ad) 1) (by omega) (by omega);rw[show ag a8 (ofI a8 ad) 1+(ad-ag a8 (ofI a8 ad) 1)=ad by omega]at m;have s:=vN (a:=ad) (Jd h);have t:=vj (es:=a2) (a:=ad) (by omega);have e1:smM a0 a1 a2 ad=peM a2 (ad/16):=s.1.trans t.1;exact⟨by omega,e1,s.2.trans t.2.1,by rw[e1];exact m.2.2⟩
end
end Go.V
namespace Go.V
abbrev Pr :=Int×Int
def xP (o:List Pr)(x:Pr):List Pr:=match o.getLast? with
 |some y=>if y.1+y.2=x.1 then o.dropLast++[(y.1,y.2+x.2)]else o++[x]
 |none=>o++[x]
def Vw (l:List Pr):List Pr:=l.foldl xP []
structure Ip where
 o:List Pr
 r:Pr
 d:Bool
def xO (s:Ip)(x:Pr):Ip:=
 if x.1+x.2=s.r.1 then⟨s.o,(x.1,x.2+s.r.2),s.d⟩
 else if s.r.1+s.r.2=x.1 then⟨s.o,(s.r.1,s.r.2+x.2),s.d⟩
 else if s.r.1<x.1/\s.d=false then⟨s.o++[s.r,x],s.r,true⟩
 else⟨s.o++[x],s.r,s.d⟩
def OJ (s:Ip):List Pr:=if s.d then s.o else s.o++[s.r]
def Tq (l:List Pr)(r:Pr):List Pr:=OJ (l.foldl xO ⟨[],r,false⟩)
structure Sp where
 o:List Pr
 d:Bool
def oD (r:Pr)(s:Sp)(x:Pr):Sp:=if s.d=false/\r.1<x.1 then⟨s.o++[r]++[x],true⟩else⟨s.o++[x],s.d⟩
def Jz (r:Pr)(s:Sp):List Pr:=if s.d then s.o else s.o++[r]
def VN (l:List Pr)(r:Pr):List Pr:=Vw (Jz r (l.foldl (oD r) ⟨[],false⟩))
def yA :List Pr->Prop
 |[]=>True
 |[x]=>0<x.2
 |x::y::l=>0<x.2/\x.1+x.2<y.1/\yA (y::l)
theorem pz {x:Pr}{l:List Pr}(h:yA (x::l)):yA l:=by
 cases l with
 |nil=>trivial
 |cons y l=>exact h.2.2
theorem uL {x:Pr}{l:List Pr}(h:yA (x::l)):0<x.2:=by
 cases l with
 |nil=>exact h
 |cons y l=>exact h.1
theorem py {x:Pr}:∀ {l:List Pr},yA (x::l)->∀ y∈l,x.1+x.2<y.1
 |[],_,y,hy=>by cases hy
 | z::l,h,y,hy=>by
   rcases List.mem_cons.1 hy with rfl|hy
   ·exact h.2.1
   ·have:=py h.2.2 y hy;have:=uL h.2.2;have:=h.2.1;omega
theorem vg {o:List Pr}{x:Pr}(h:∀ y,o.getLast?=some y->y.1+y.2≠x.1):xP o x=o++[x]:=by
 unfold xP;split
 ·rename_i y e;rw[if_neg (h y e)]
 ·rfl
theorem yR {o:List Pr}{y x:Pr}(h:y.1+y.2=x.1):xP (o++[y]) x=o++[(y.1,y.2+x.2)]:=by
 unfold xP;rw[List.getLast?_append,List.getLast?_singleton];simp only[Option.some_or,if_pos h,List.dropLast_concat]
theorem Nb {o:List Pr}{y x:Pr}(h:y.1+y.2≠x.1):xP (o++[y]) x=o++[y]++[x]:=vg (by
 intro z hz;rw[List.getLast?_append,List.getLast?_singleton]at hz;simp at hz;subst hz;exact h)
theorem vh :∀ {l o:List Pr} {y:Pr},yA (y::l)->l.foldl xP (o++[y])=o++[y]++l
 |[],o,y,_=>by simp
 | x::l,o,y,h=>by
   have e:y.1+y.2<x.1:=h.2.1;rw[List.foldl_cons,Nb (by omega),vh (pz h)];simp
theorem Dm :∀ {l:List Pr} {o:List Pr} {r:Pr},(∀ y∈l,r.1+r.2<y.1/\r.1<y.1+y.2)->l.foldl xO ⟨o,r,true⟩=⟨o++l,r,true⟩
 |[],o,r,_=>by simp
 | x::l,o,r,h=>by
   have e:=h x (by simp);rw[List.foldl_cons];have s:xO ⟨o,r,true⟩ x=⟨o++[x],r,true⟩:=by
    unfold xO;rw[if_neg (by show¬ x.1+x.2=r.1;omega),if_neg (by show¬ r.1+r.2=x.1;omega),if_neg (by simp)]
   rw[s,Dm (fun y hy=>h y (by simp[hy]))];simp
theorem sL :∀ {l:List Pr},yA l->∀ y∈l,0<y.2
 |[],_,y,hy=>by cases hy
 | x::l,h,y,hy=>by
   rcases List.mem_cons.1 hy with rfl|hy
   ·exact uL h
   ·exact sL (pz h) y hy
theorem Gj {l o:List Pr}{r x:Pr}(h:yA (x::l))(e:r.1+r.2<x.1)(p:0<r.2):OJ ((x::l).foldl xO ⟨o,r,false⟩)=o++[r]++(x::l):=by
 have q:=uL h;have s:xO ⟨o,r,false⟩ x=⟨o++[r,x],r,true⟩:=by
  unfold xO;rw[if_neg (by show¬ x.1+x.2=r.1;omega),if_neg (by show¬ r.1+r.2=x.1;omega),if_pos (by exact⟨by show r.1<x.1;omega,rfl⟩)]
 rw[List.foldl_cons,s,Dm (fun y hy=>by have:=py h y hy;have:=sL h y (by simp[hy]);constructor<;>omega)];simp[OJ]
theorem Mk {x y:Pr}{l:List Pr}(h:yA (x::l))(p:0<y.2)(e:y.1+y.2=x.1+x.2):yA (y::l):=by
 cases l with
 |nil=>exact p
 |cons z l=>exact⟨p,by have:=h.2.1;omega,h.2.2⟩
theorem IJ {y x:Pr}{l:List Pr}(h:yA (x::l))(p:0<y.2)(e:y.1+y.2<x.1):yA (y::x::l):=⟨p,e,h⟩
theorem AK {l o:List Pr}{r:Pr}(h:yA l)(p:0<r.2)(a:∀ y∈l,r.1+r.2<=y.1):OJ (l.foldl xO ⟨o,r,false⟩)=l.foldl xP (o++[r]):=by
 cases l with
 |nil=>rfl
 | cons x l=>
   have ax:=a x (by simp);by_cases e:r.1+r.2=x.1
   ·have q:=uL h;have s:xO ⟨o,r,false⟩ x=⟨o,(r.1,r.2+x.2),false⟩:=by
     unfold xO;rw[if_neg (by show¬ x.1+x.2=r.1;omega),if_pos (by exact e)]
    rw[List.foldl_cons,List.foldl_cons,s,yR e];cases l with
    |nil=>rfl
    | cons y l=>
      have d:=h.2.1;rw[Gj h.2.2 (by show r.1+(r.2+x.2)<y.1;omega) (by show 0<r.2+x.2;omega),vh (Mk h (by show 0<r.2+x.2;omega) (by show r.1+(r.2+x.2)=x.1+x.2;omega))]
   ·rw[Gj h (by omega) p,vh (IJ h p (by omega))]
theorem Cw {r:Pr}:∀ {l a:List Pr},Jz r (l.foldl (oD r) ⟨a,false⟩)=a++Jz r (l.foldl (oD r) ⟨[],false⟩)
 |[],a=>by simp[Jz]
 | x::l,a=>by
   have put:∀ (m b:List Pr),m.foldl (oD r) ⟨b,true⟩=⟨b++m,true⟩:=by
    intro m
    induction m with
    |nil=>intro b;simp
    | cons y m ih=>
      intro b;rw[List.foldl_cons,show oD r ⟨b,true⟩ y=⟨b++[y],true⟩from by unfold oD;rw[if_neg (by simp)],ih];simp
   rw[List.foldl_cons,List.foldl_cons];by_cases c:r.1<x.1
   ·rw[show oD r ⟨a,false⟩ x=⟨a++[r]++[x],true⟩from by unfold oD;rw[if_pos ⟨rfl,c⟩],show oD r ⟨[],false⟩ x=⟨[]++[r]++[x],true⟩from by unfold oD;rw[if_pos ⟨rfl,c⟩],put,put];simp[Jz]
   ·rw[show oD r ⟨a,false⟩ x=⟨a++[x],false⟩from by unfold oD;rw[if_neg (fun q=>c q.2)],show oD r ⟨[],false⟩ x=⟨[]++[x],false⟩from by unfold oD;rw[if_neg (fun q=>c q.2)],Cw (a:=a++[x]),Cw (a:=[]++[x])];simp
theorem A4 {r:Pr}{l:List Pr}(a:∀ y∈l,r.1<y.1):Jz r (l.foldl (oD r) ⟨[],false⟩)=r::l:=by
 cases l with
 |nil=>rfl
 | cons x l=>
   have put:∀ (m b:List Pr),m.foldl (oD r) ⟨b,true⟩=⟨b++m,true⟩:=by
    intro m
    induction m with
    |nil=>intro b;simp
    | cons y m ih=>
      intro b;rw[List.foldl_cons,show oD r ⟨b,true⟩ y=⟨b++[y],true⟩from by unfold oD;rw[if_neg (by simp)],ih];simp
   rw[List.foldl_cons,show oD r ⟨[],false⟩ x=⟨[]++[r]++[x],true⟩from by unfold oD;rw[if_pos ⟨rfl,a x (by simp)⟩],put];simp[Jz]
theorem Hz {r:Pr}(p:0<r.2):∀ {l o:List Pr},yA l->(∀ x∈l,¬ (x.1<r.1+r.2/\r.1<x.1+x.2))->(∀ y,o.getLast?=some y->y.1+y.2<r.1/\∀ x∈l,y.1+y.2<x.1)->
 OJ (l.foldl xO ⟨o,r,false⟩)=(Jz r (l.foldl (oD r) ⟨[],false⟩)).foldl xP o
 | [],o,_,_,ho=>by
   show o++[r]=xP o r;rw[vg (fun y hy=>by have:=(ho y hy).1;omega)]
 | x::l,o,h,no,ho=>by
   have nx:=no x (by simp);have px:=uL h;by_cases c:r.1<x.1
   ·have af:∀ y∈x::l,r.1+r.2<=y.1:=fun y hy=>by
     have:=no y hy;have:=sL h y hy;rcases List.mem_cons.1 hy with rfl|q
     ·omega
     ·have:=py h y q;omega
    rw[AK h p af,A4 (fun y hy=>by have:=af y hy;omega),List.foldl_cons (a:=r),vg (x:=r) (fun y hy=>by have:=(ho y hy).1;omega)]
   ·have e:x.1+x.2<=r.1:=by omega
    have jx:xP o x=o++[x]:=vg (fun y hy=>by have:=(ho y hy).2 x (by simp);omega);have af:∀ y∈l,x.1+x.2<y.1:=py h;rw[List.foldl_cons,List.foldl_cons (f:=oD r),show oD r ⟨[],false⟩ x=⟨[x],false⟩from by unfold oD;rw[if_neg (fun q=>c q.2)];rfl,Cw (a:=[x]),List.foldl_append,List.foldl_cons,List.foldl_nil,jx];by_cases t:x.1+x.2=r.1
    ·rw[show xO ⟨o,r,false⟩ x=⟨o,(x.1,x.2+r.2),false⟩from by unfold xO;rw[if_pos (by exact t)]];have af2:∀ y∈l,r.1+r.2<=y.1:=fun y hy=>by
      have:=no y (by simp[hy]);have:=sL h y (by simp[hy]);have:=af y hy;omega
     rw[AK (pz h) (by show 0<x.2+r.2;omega) (fun y hy=>by have:=af2 y hy;show x.1+(x.2+r.2)<=y.1;omega),A4 (fun y hy=>by have:=af y hy;omega),List.foldl_cons,yR t]
    ·rw[show xO ⟨o,r,false⟩ x=⟨o++[x],r,false⟩from by unfold xO;rw[if_neg (by exact t),if_neg (by show¬ r.1+r.2=x.1;omega),if_neg (fun q=>c q.1)]];exact Hz p (pz h) (fun y hy=>no y (by simp[hy])) (fun y hy=>by
      rw[List.getLast?_append,List.getLast?_singleton]at hy;simp at hy;subst hy;exact⟨by omega,af⟩)
theorem RJ {r:Pr}{l:List Pr}(h:yA l)(p:0<r.2)(no:∀ x∈l,¬ (x.1<r.1+r.2/\r.1<x.1+x.2)):Tq l r=VN l r:=Hz p h no (fun y hy=>by cases hy)
end Go.V
namespace Go.V
structure lT (cs us es:aa):Prop where
 n0:1<=cs.length
 n1:cs.length<=32
 u:us.length=cs.length
 l:∀ i:Int,0<=i->i<cs.length->(aR cs i 0).length=16
 c:∀ i k:Int,0<=i->i<cs.length->0<=k->k<16->0<=ag (aR cs i 0) k 0/\ag (aR cs i 0) k 0<=999/\(nT us i 0=false->ag (aR cs i 0) k 0=0)
 e0:1<=es.length
 e1:es.length<=32
 e:∀ i:Int,0<=i->i<es.length->0<=ag es i 0/\ag es i 0<=2/\(ag es i 0=0->ag es i 1=0)/\(0<ag es i 0->0<=ag es i 1/\ag es i 1<cs.length)
 m:∀ i:Int,0<=i->i<cs.length->nT us i 0=ez es i
theorem Nv {cs us es:aa}(h:machOk cs us es=true):lT cs us es:=by
 obtain⟨h1,h2,h3⟩:=K2 h;have a:=uX h1;have b:=vU h2;refine⟨a.2.1,a.2.2,a.1,fun i i0 i1=>KF h1 i0 i1,fun i k i0 i1 k0 k1=>?_,b.1,b.2,fun i i0 i1=>LD h2 i0 i1,h3⟩;have q:=h1;unfold framesOk at q;simp only[Bool.and_eq_true,decide_eq_true_eq]at q;have r:=cn.1 q.2 i i0 i1;unfold eG at r;simp only[Bool.and_eq_true,decide_eq_true_eq]at r;have s:=cn.1 r.2 k k0 (by omega);unfold iL at s;simp only[Bool.and_eq_true,Bool.or_eq_true,decide_eq_true_eq]at s;have t:=bE.1 s.1;refine⟨t.1,t.2,fun f=>?_⟩;rcases s.2 with w|w
 ·rw[f]at w;cases w
 ·exact w
theorem Nw {cs us es:aa}(h:lT cs us es):machOk cs us es=true:=by
 have f:framesOk cs us=true:=FV (i:=cs.length) (bE.2 ⟨by have:=h.n0;omega,by have:=h.n1;omega⟩) h.u (fun i i0 i1=>KG (k:=16) (h.l i i0 i1) (fun k k0 k1=>by
  have c:=h.c i k i0 i1 k0 k1;refine Kn (bE.2 ⟨c.1,c.2.1⟩) ?_;cases q:nT us i 0 with
  |true=>exact .inl rfl
  |false=>exact .inr (c.2.2 q)) (Int.le_refl _)) (Int.le_refl _)
 have t:tableOk es us.length=true:=by
  rw[HP (i:=es.length) (fun i i0 i1=>LE (by have:=h.e i i0 i1;rw[h.u];exact this)) (Int.le_refl _)];exact bE.2 ⟨by have:=h.e0;omega,by have:=h.e1;omega⟩
 exact Cb (i:=us.length) f t (fun i i0 i1=>GM (h.m i i0 (by rw[h.u]at i1;exact i1))) (Int.le_refl _)
theorem GP {es:aa}{f:Int}:∀ {n:Nat},0<(sC es f n).length↔∃ i:Nat,i<n/\ag es i 0≠0/\ag es i 1=f
 |0=>⟨fun h=>absurd h (Nat.lt_irrefl _),fun⟨i,h,_⟩=>absurd h (by omega)⟩
 | n+1=>by
   by_cases c:ag es n 0≠0/\ag es n 1=f
   ·rw[sC,if_pos c,List.length_append];exact⟨fun _=>⟨n,by omega,c⟩,fun _=>by simp only[List.length_cons,List.length_nil];omega⟩
   ·rw[sC,if_neg c,GP (n:=n)]
    constructor
    ·rintro⟨i,h,q⟩;exact⟨i,by omega,q⟩
    ·rintro⟨i,h,q⟩;by_cases z:i=n
     ·subst z;exact absurd q c
     ·exact⟨i,by omega,q⟩
theorem oc {es:aa}{f:Int}:ez es f=true↔∃ i:Nat,i<es.length/\ag es i 0≠0/\ag es i 1=f:=yX.trans GP
theorem uY {es:aa}{n i:Nat}{r:aP}(h:n<es.length):(es.set n r).getD i []=if i=n then r else es.getD i []:=by
 simp only[List.getD_eq_getElem?_getD,List.getElem?_set];by_cases c:n=i
 ·subst c;rw[if_pos rfl,if_pos h,if_pos rfl];rfl
 ·rw[if_neg c,if_neg (Ne.symm c)]
theorem Px {es:aa}{n i:Int}{r:aP}{j:Nat}(n0:0<=n)(n1:n<es.length)(i0:0<=i):ag (es.set n.toNat r) i j=if i=n then KZ (r.getD j .g)else ag es i j:=by
 unfold ag;rw[uY (by omega)];by_cases c:i=n
 ·rw[if_pos (by omega),if_pos c]
 ·rw[if_neg (by omega),if_neg c]
theorem Vu {es:aa}{n i:Int}{r:aP}{j:Nat}(n0:0<=n)(n1:n<es.length)(i0:0<=i):nT (es.set n.toNat r) i j=if i=n then Um (r.getD j .g)else nT es i j:=by
 unfold nT;rw[uY (by omega)];by_cases c:i=n
 ·rw[if_pos (by omega),if_pos c]
 ·rw[if_neg (by omega),if_neg c]
theorem Tp {es:aa}{n i:Int}{r:aP}{j:Nat}(n0:0<=n)(n1:n<es.length)(i0:0<=i):aR (es.set n.toNat r) i j=if i=n then E7 (r.getD j .g)else aR es i j:=by
 unfold aR;rw[uY (by omega)];by_cases c:i=n
 ·rw[if_pos (by omega),if_pos c]
 ·rw[if_neg (by omega),if_neg c]
def yc (es:aa)(p:Int):aa:=es.set p.toNat [.i 0,.i 0]
def dfU (us es:aa)(f:Int):aa:=if ez es f=true then us else us.set f.toNat [.v (.bool false)]
def dfC (cs es:aa)(f:Int):aa:=if ez es f=true then cs else cs.set f.toNat [.s 1 (jK 16 [.i 0])]
theorem IX {k:Int}(k0:0<=k)(k1:k<16):ag (jK 16 [.i 0]) k 0=0:=by
 show ag (List.replicate 16 [L.i 0]) k 0=0;unfold ag;rw[List.getD_eq_getElem?_getD (l:=List.replicate _ _),List.getElem?_replicate,if_pos (by omega)];rfl
theorem Pj {cs us es es':aa}{f:Int}(h:lT cs us es)(f0:0<=f)(f1:f<cs.length)(l:es'.length=es.length) 
 (e:∀ i:Int,0<=i->i<es.length->0<=ag es' i 0/\ag es' i 0<=2/\(ag es' i 0=0->ag es' i 1=0)/\(0<ag es' i 0->0<=ag es' i 1/\ag es' i 1<cs.length))
 (m:∀ i:Int,0<=i->i<cs.length->i≠f->ez es' i=ez es i) (g:ez es' f=true->ez es f=true):lT (dfC cs es' f) (dfU us es' f) es':=by
 unfold dfC dfU;by_cases q:ez es' f=true
 ·rw[if_pos q,if_pos q];refine⟨h.n0,h.n1,h.u,h.l,h.c,by rw[l];exact h.e0,by rw[l];exact h.e1,fun i i0 i1=>e i i0 (by omega),fun i i0 i1=>?_⟩;by_cases c:i=f
  ·rw[c,q,h.m f f0 f1,g q]
  ·rw[m i i0 i1 c];exact h.m i i0 i1
 ·have hu:=h.u;rw[if_neg q,if_neg q];refine⟨by rw[List.length_set];exact h.n0,by rw[List.length_set];exact h.n1,by rw[List.length_set,List.length_set];exact h.u,fun i i0 i1=>?_,fun i k i0 i1 k0 k1=>?_,by rw[l];exact h.e0,by rw[l];exact h.e1,fun i i0 i1=>by rw[List.length_set];exact e i i0 (by omega),fun i i0 i1=>?_⟩
  ·rw[List.length_set]at i1;rw[Tp f0 f1 i0];split
   ·rfl
   ·exact h.l i i0 i1
  ·rw[List.length_set]at i1;rw[Tp f0 f1 i0,Vu f0 (by omega) i0];split
   ·show 0<=ag (jK 16 [.i 0]) k 0/\ag (jK 16 [.i 0]) k 0<=999/\(_->ag (jK 16 [.i 0]) k 0=0);rw[IX k0 k1];exact⟨by omega,by omega,fun _=>rfl⟩
   ·exact h.c i k i0 i1 k0 k1
  ·rw[List.length_set]at i1;rw[Vu f0 (by omega) i0];split
   ·rename_i c;subst c;show false=_;cases z:ez es' i with
    |false=>rfl
    |true=>exact absurd z q
   ·rename_i c;rw[m i i0 i1 c];exact h.m i i0 i1
theorem Sg {cs us es:aa}{p:Int}(h:lT cs us es)(hp:peM es p≠0):lT (dfC cs (yc es p) (peF es p)) (dfU us (yc es p) (peF es p)) (yc es p):=by
 have pr:0<=p/\p<es.length:=by
  by_cases c:0<=p/\p<es.length
  ·exact c
  ·exact absurd (AV c).1 hp
 have em:peM es p=ag es p 0:=by unfold peM;rw[if_pos pr]
 have ef:peF es p=ag es p 1:=by unfold peF;rw[if_pos pr]
 rw[em]at hp;have ep:=h.e p pr.1 pr.2;have fr:=ep.2.2.2 (by omega);rw[ef];have z:∀ i:Int,0<=i->ag (yc es p) i 0=(if i=p then 0 else ag es i 0)/\ag (yc es p) i 1=if i=p then 0 else ag es i 1:=fun i i0=>⟨Px pr.1 pr.2 i0,Px pr.1 pr.2 i0⟩
 have lu:(yc es p).length=es.length:=List.length_set;have mp:∀ f:Int,ez (yc es p) f=true↔∃ i:Nat,i<es.length/\(i:Int)≠p/\ag es i 0≠0/\ag es i 1=f:=fun f=>by
  rw[oc,lu]
  constructor
  ·rintro⟨i,i1,a,b⟩;rw[(z i (by omega)).1]at a;rw[(z i (by omega)).2]at b;by_cases c:(i:Int)=p
   ·rw[if_pos c]at a;exact absurd rfl a
   ·rw[if_neg c]at a b;exact⟨i,i1,c,a,b⟩
  ·rintro⟨i,i1,c,a,b⟩;exact⟨i,i1,by rw[(z i (by omega)).1,if_neg c];exact a,by rw[(z i (by omega)).2,if_neg c];exact b⟩
 refine Pj h fr.1 fr.2 lu (fun i i0 i1=>?_) (fun i i0 i1 ne=>?_) (fun q=>?_)
 ·rw[(z i i0).1,(z i i0).2];split
  ·exact⟨by omega,by omega,fun _=>rfl,fun q=>by omega⟩
  ·exact h.e i i0 i1
 ·rw[Bool.eq_iff_iff,mp,oc]
  constructor
  ·rintro⟨i,i1,_,a,b⟩;exact⟨i,i1,a,b⟩
  ·rintro⟨k,k1,a,b⟩;refine⟨k,k1,fun c=>?_,a,b⟩;rw[c]at b;exact ne b.symm
 ·obtain⟨i,i1,_,a,b⟩:=(mp _).1 q;exact oc.2 ⟨i,i1,a,b⟩
end Go.V
namespace Go.V
theorem Hf {es:aa}{p:Int}(h:peM es p≠0):(0<=p/\p<es.length)/\peM es p=ag es p 0/\peF es p=ag es p 1:=by
 have pr:0<=p/\p<es.length:=by
  by_cases c:0<=p/\p<es.length
  ·exact c
  ·exact absurd (AV c).1 h
 exact⟨pr,by unfold peM;rw[if_pos pr],by unfold peF;rw[if_pos pr]⟩
def V5 (es:aa)(p m f:Int):aa:=es.set p.toNat [.i m,.i f]
theorem R4 {cs us es:aa}{p f k v:Int}(h:lT cs us es)(hp:peM es p≠0)(ef':peF es p=f)(k0:0<=k)(k1:k<16)(v0:0<=v)(v1:v<=999):lT (lc cs f k v) us es:=by
 obtain⟨pr,em,ef⟩:=Hf hp;rw[em]at hp;have ep:=h.e p pr.1 pr.2;have fr:=ep.2.2.2 (by omega);rw[<-ef,ef']at fr;have used:nT us f 0=true:=by
  rw[h.m f fr.1 fr.2];obtain⟨n,rfl⟩:=Int.eq_ofNat_of_zero_le pr.1;exact oc.2 ⟨n,by omega,hp,by rw[<-ef,ef']⟩
 have lf:=h.l f fr.1 fr.2;unfold lc;refine⟨by rw[List.length_set];exact h.n0,by rw[List.length_set];exact h.n1,by rw[List.length_set];exact h.u,fun i i0 i1=>?_,fun i j i0 i1 j0 j1=>?_,h.e0,h.e1,fun i i0 i1=>by rw[List.length_set];exact h.e i i0 i1,fun i i0 i1=>by rw[List.length_set]at i1;exact h.m i i0 i1⟩
 ·rw[List.length_set]at i1;rw[Tp fr.1 fr.2 i0];split
  ·show((aR cs f 0).set k.toNat _).length=16;rw[List.length_set,lf]
  ·exact h.l i i0 i1
 ·rw[List.length_set]at i1;rw[Tp fr.1 fr.2 i0];split
  ·rename_i c;subst c;show 0<=ag ((aR cs i 0).set k.toNat [.i v]) j 0/\ag ((aR cs i 0).set k.toNat [.i v]) j 0<=999/\(_->ag ((aR cs i 0).set k.toNat [.i v]) j 0=0);rw[Px k0 (by omega) j0];have c:=h.c i j i0 i1 j0 j1;split
   ·exact⟨v0,v1,fun q=>by rw[used]at q;cases q⟩
   ·exact c
  ·exact h.c i j i0 i1 j0 j1
end Go.V
namespace Go.V
def Vh (e:aP):Pr:=(KZ (e.getD 0 .g),KZ (e.getD 1 .g))
def iz (es:aa):List Pr:=es.map Vh
def V1 (p:Pr):aP:=[.i p.1,.i p.2]
def rowP (l:List Pr):aa:=l.map V1
theorem iB {es:aa}:(iz es).length=es.length:=List.length_map _
theorem oC {l:List Pr}:(rowP l).length=l.length:=List.length_map _
theorem dK {es:aa}{i:Int}(i0:0<=i)(i1:i<es.length):(iz es)[i.toNat]?=some (ag es i 0,ag es i 1):=by
 unfold iz ag;rw[List.getElem?_map,List.getD_eq_getElem?_getD (l:=es),List.getElem?_eq_getElem (by omega)];rfl
theorem JS {es:aa}{x:Pr}(h:x∈iz es):∃ i:Nat,i<es.length/\x=(ag es i 0,ag es i 1):=by
 obtain⟨i,hi,e⟩:=List.getElem_of_mem h;rw[iB]at hi;refine⟨i,hi,?_⟩;have q:=dK (es:=es) (i:=(i:Int)) (by omega) (by omega);rw[Int.toNat_natCast,List.getElem?_eq_getElem (by rw[iB];exact hi)]at q;rw[<-e];exact Option.some.inj q
theorem s9 {l:List Pr}(h:∀ x∈l,(-9223372036854775808<=x.1/\x.1<=9223372036854775807)/\(-9223372036854775808<=x.2/\x.2<=9223372036854775807))(n:l.length<=maxLen):Rw [tI,tI] (rowP l):=⟨by rw[oC];exact n,fun e he=>by
 obtain⟨x,hx,rfl⟩:=List.mem_map.1 he;exact⟨⟨rfl,(h x hx).1⟩,⟨rfl,(h x hx).2⟩,trivial⟩⟩
theorem dG {a b:List Pr}:rowP (a++b)=rowP a++rowP b:=List.map_append
theorem FG :∀ {l:List Pr},(∀ x∈l,0<x.2)->(∀ i:Nat,i+1<l.length->∀ x y,l[i]?=some x->l[i+1]?=some y->x.1+x.2<y.1)->yA l
 |[],_,_=>trivial
 |[x],h,_=>h x (by simp)
 |x::y::l,h,g=>⟨h x (by simp),g 0 (by simp) x y rfl rfl,FG (fun z hz=>h z (by simp[hz])) (fun i hi a b ha hb=>g (i+1) (by simp at hi ⊢;omega) a b (by simpa using ha) (by simpa using hb))⟩
structure Ib (n:Int)(rs:aa):Prop where
 n0:1<=n
 n1:n<=32
 c:yA (iz rs)
 b:∀ x∈iz rs,0<=x.1/\1<=x.2/\x.1+x.2<=n
theorem vI {n:Int}{rs:aa}(h:rgOk n rs=true):Ib n rs:=by
 unfold rgOk at h;rw[Bool.and_eq_true]at h;obtain⟨h1,h2⟩:=h;have r:=bE.1 h2;have at':∀ i:Int,0<=i->i<rs.length->(0<=ag rs i 0/\1<=ag rs i 1/\ag rs i 0+ag rs i 1<=n)/\(0<i->¬ ag rs i 0<=bF .add .i64 (ag rs (i-1) 0) (ag rs (i-1) 1)):=fun i i0 i1=>by
  have a:=cn.1 h1 i i0 i1;unfold pP at a;simp only[Bool.and_eq_true,Bool.not_eq_true',Bool.and_eq_false_iff,decide_eq_false_iff_not]at a;have b:=a.1;unfold rngIn at b;simp only[Bool.and_eq_true]at b;have b1:=bE.1 b.1;have b2:=bE.1 b.2;refine⟨by omega,fun p=>?_⟩;rcases a.2 with q|q
  ·exact absurd p q
  ·exact q
 have bd:∀ x∈iz rs,0<=x.1/\1<=x.2/\x.1+x.2<=n:=fun x hx=>by
  obtain⟨i,hi,rfl⟩:=JS hx;exact(at' i (by omega) (by omega)).1
 refine⟨r.1,r.2,FG (fun x hx=>by have:=(bd x hx).2.1;omega) (fun i hi x y hx hy=>?_),bd⟩;rw[iB]at hi;have qx:=dK (es:=rs) (i:=(i:Int)) (by omega) (by omega);have qy:=dK (es:=rs) (i:=((i+1:Nat):Int)) (by omega) (by omega);rw[Int.toNat_natCast]at qx qy;rw[hx]at qx;rw[hy]at qy;cases qx;cases qy;have a:=(at' ((i+1:Nat):Int) (by omega) (by omega)).2 (by omega);have b:=(at' (i:Int) (by omega) (by omega)).1;rw[show((i+1:Nat):Int)-1=(i:Int)by omega,bc (by omega)]at a;show ag rs i 0+ag rs i 1<_;omega
def Aa (x r:Pr):Bool:=decide (x.1<r.1+r.2)&&decide (r.1<x.1+x.2)
def rpB (n:Int)(rs:aa)(a l:Int):Bool:=rgOk n rs&&(rngIn n a l&&(iz rs).all fun x=> !Aa x (a,l))
def rpL (n:Int)(rs:aa)(a l:Int):aa:=if rpB n rs a l=true then rowP (Tq (iz rs) (a,l))else rs
structure BI (rs:aa)(a0 l0 i:Int)(o:aa)(a l:Int)(d:Bool):Prop where
 s:∃ o',o=rowP o'/\((iz rs).take i.toNat).foldl xO ⟨[],(a0,l0),false⟩=⟨o',(a,l),d⟩
 n:∀ x∈(iz rs).take i.toNat,Aa x (a0,l0)=false
 v:∀ x∈(iz rs).drop i.toNat,Aa x (a,l)=Aa x (a0,l0)
 b:0<=a/\1<=l/\a+l<=32
end Go.V
namespace Go.V
theorem Aq :∀ {l:List Pr} {i:Nat} {y:Pr},yA l->l[i]?=some y->∀ x∈l.drop (i+1),y.1+y.2<x.1
 |[],i,y,_,h=>by simp at h
 | z::l,0,y,c,h=>by
   simp at h;subst h;intro x hx;exact py c x (by simpa using hx)
 | z::l,i+1,y,c,h=>by
   intro x hx;exact Aq (pz c) (by simpa using h) x (by simpa using hx)
theorem take_at {l:List Pr}{i:Int}{y:Pr}(i0:0<=i)(h:l[i.toNat]?=some y):l.take (i+1).toNat=l.take i.toNat++[y]:=by
 rw[show(i+1).toNat=i.toNat+1 by omega,List.take_add_one,h];rfl
theorem drop_at {l:List Pr}{i:Int}{y:Pr}(i0:0<=i)(h:l[i.toNat]?=some y):l.drop i.toNat=y::l.drop (i+1).toNat:=by
 rw[show(i+1).toNat=i.toNat+1 by omega];obtain⟨h1,h2⟩:=List.getElem?_eq_some_iff.1 h;rw[List.drop_eq_getElem_cons h1,h2]
theorem xf {x r:Pr}:Aa x r=true↔x.1<r.1+r.2/\r.1<x.1+x.2:=by unfold Aa;rw[Bool.and_eq_true,decide_eq_true_eq,decide_eq_true_eq]
section
variable {n : Int} {rs : aa} {a0 l0 i : Int} {o : aa} {a l : Int} {d : Bool}
theorem Ln (b:0<=a0/\1<=l0/\a0+l0<=32):BI rs a0 l0 0 [] a0 l0 false:=⟨⟨[],rfl,rfl⟩,fun x hx=>by simp at hx,fun _ _=>rfl,b⟩
theorem N1 (T:Ib n rs)(h:BI rs a0 l0 i o a l d)(i0:0<=i)(i1:i<rs.length)(x1:ag rs i 0<a+l)(x2:a<ag rs i 0+ag rs i 1):rpB n rs a0 l0=false:=by
 have e:=dK (es:=rs) i0 i1;have m:(ag rs i 0,ag rs i 1)∈(iz rs).drop i.toNat:=by rw[drop_at i0 e];simp
 have v:=h.v _ m;rw[xf.2 ⟨x1,x2⟩]at v;unfold rpB;have:((iz rs).all fun x=> !Aa x (a0,l0))=false:=by
  rw[List.all_eq_false];exact⟨_,List.mem_of_mem_drop m,by rw[<-v];simp⟩
 rw[this];simp
theorem Ed (T:Ib n rs)(h:BI rs a0 l0 i o a l d)(i0:0<=i)(i1:i<rs.length)(nov:¬ (ag rs i 0<a+l/\a<ag rs i 0+ag rs i 1)):
 (∀ x∈(iz rs).take (i+1).toNat,Aa x (a0,l0)=false)/\(∀ x∈(iz rs).drop (i+1).toNat,ag rs i 0+ag rs i 1<x.1/\1<=x.2/\Aa x (a,l)=Aa x (a0,l0))/\(0<=ag rs i 0/\1<=ag rs i 1/\ag rs i 0+ag rs i 1<=32):=by
 have e:=dK (es:=rs) i0 i1;have m:(ag rs i 0,ag rs i 1)∈(iz rs).drop i.toNat:=by rw[drop_at i0 e];simp
 have v:=h.v _ m;have b:=T.b _ (List.mem_of_mem_drop m);have:=T.n1;refine⟨fun x hx=>?_,fun x hx=>?_,⟨b.1,b.2.1,by have:=b.2.2;omega⟩⟩
 ·rw[take_at i0 e]at hx;rcases List.mem_append.1 hx with q|q
  ·exact h.n x q
  ·rw[List.mem_singleton]at q;rw[q, <-v];cases z:Aa (ag rs i 0,ag rs i 1) (a,l)with
   |false=>rfl
   |true=>exact absurd (xf.1 z) nov
 ·have c:=Aq T.c e x (by rw[show(i+1).toNat=i.toNat+1 by omega]at hx;exact hx);have p:=T.b x (List.mem_of_mem_drop hx);exact⟨c,p.2.1,h.v x (by rw[drop_at i0 e];exact List.mem_cons_of_mem _ hx)⟩
theorem Lo (T:Ib n rs)(h:BI rs a0 l0 i o a l d)(i0:0<=i)(i1:i<rs.length)(nov:¬ (ag rs i 0<a+l/\a<ag rs i 0+ag rs i 1))(q:ag rs i 0+ag rs i 1=a):BI rs a0 l0 (i+1) o (ag rs i 0) (ag rs i 1+l) d:=by
 have e:=dK (es:=rs) i0 i1;obtain⟨h1,h2,h3⟩:=Ed T h i0 i1 nov;obtain⟨o',eo,es⟩:=h.s;have hb:=h.b;refine⟨⟨o',eo,?_⟩,h1,fun x hx=>?_,by omega⟩
 ·rw[take_at i0 e,List.foldl_append,es,List.foldl_cons,List.foldl_nil];unfold xO;rw[if_pos (by exact q)]
 ·obtain⟨c1,c2,c3⟩:=h2 x hx;rw[<-c3,Bool.eq_iff_iff,xf,xf]
  constructor<;>rintro⟨u,w⟩<;>constructor<;>(simp only at*;omega)
theorem Lp (T:Ib n rs)(h:BI rs a0 l0 i o a l d)(i0:0<=i)(i1:i<rs.length)(nov:¬ (ag rs i 0<a+l/\a<ag rs i 0+ag rs i 1))(p:ag rs i 0+ag rs i 1≠a)(q:a+l=ag rs i 0):BI rs a0 l0 (i+1) o a (l+ag rs i 1) d:=by
 have e:=dK (es:=rs) i0 i1;obtain⟨h1,h2,h3⟩:=Ed T h i0 i1 nov;obtain⟨o',eo,es⟩:=h.s;have hb:=h.b;refine⟨⟨o',eo,?_⟩,h1,fun x hx=>?_,by omega⟩
 ·rw[take_at i0 e,List.foldl_append,es,List.foldl_cons,List.foldl_nil];unfold xO;rw[if_neg (by exact p),if_pos (by exact q)]
 ·obtain⟨c1,c2,c3⟩:=h2 x hx;rw[<-c3,Bool.eq_iff_iff,xf,xf]
  constructor<;>rintro⟨u,w⟩<;>constructor<;>(simp only at*;omega)
theorem Lq (T:Ib n rs)(h:BI rs a0 l0 i o a l d)(i0:0<=i)(i1:i<rs.length)(nov:¬ (ag rs i 0<a+l/\a<ag rs i 0+ag rs i 1))(p:ag rs i 0+ag rs i 1≠a)(q:a+l≠ag rs i 0)(c:a<ag rs i 0)(hd:d=false):
 BI rs a0 l0 (i+1) (o++[[.i a,.i l],[.i (ag rs i 0),.i (ag rs i 1)]]) a l true:=by
 have e:=dK (es:=rs) i0 i1;obtain⟨h1,h2,h3⟩:=Ed T h i0 i1 nov;obtain⟨o',eo,es⟩:=h.s;refine⟨⟨o'++[(a,l),(ag rs i 0,ag rs i 1)],by rw[dG,eo];rfl,?_⟩,h1,fun x hx=>(h2 x hx).2.2,h.b⟩;rw[take_at i0 e,List.foldl_append,es,List.foldl_cons,List.foldl_nil];unfold xO;rw[if_neg (by exact p),if_neg (by exact q),if_pos (by exact⟨c,hd⟩)]
theorem HA (T:Ib n rs)(h:BI rs a0 l0 i o a l d)(i0:0<=i)(i1:i<rs.length)(nov:¬ (ag rs i 0<a+l/\a<ag rs i 0+ag rs i 1))(p:ag rs i 0+ag rs i 1≠a)(q:a+l≠ag rs i 0)(c:¬ (a<ag rs i 0/\d=false)):
 BI rs a0 l0 (i+1) (o++[[.i (ag rs i 0),.i (ag rs i 1)]]) a l d:=by
 have e:=dK (es:=rs) i0 i1;obtain⟨h1,h2,h3⟩:=Ed T h i0 i1 nov;obtain⟨o',eo,es⟩:=h.s;refine⟨⟨o'++[(ag rs i 0,ag rs i 1)],by rw[dG,eo];rfl,?_⟩,h1,fun x hx=>(h2 x hx).2.2,h.b⟩;rw[take_at i0 e,List.foldl_append,es,List.foldl_cons,List.foldl_nil];unfold xO;rw[if_neg (by exact p),if_neg (by exact q),if_neg (by exact c)]
theorem RL (h:rgOk n rs=true)(g:rngIn n a0 l0=true)(nov:∀ x∈iz rs,Aa x (a0,l0)=false):rpB n rs a0 l0=true/\rpL n rs a0 l0=rowP (Tq (iz rs) (a0,l0)):=by
 have e:rpB n rs a0 l0=true:=by
  unfold rpB;rw[h,g];simp only[Bool.true_and,List.all_eq_true];intro x hx;rw[nov x hx];rfl
 exact⟨e,by unfold rpL;rw[if_pos e]⟩
theorem A3 (h:rpB n rs a0 l0=false):rpL n rs a0 l0=rs:=by unfold rpL;rw[h];rfl
theorem ta (hr:rgOk n rs=true)(g:rngIn n a0 l0=true)(h:BI rs a0 l0 i o a l d)(i1:(rs.length:Int)<=i):rpB n rs a0 l0=true/\rpL n rs a0 l0=if d=true then o else o++[[.i a,.i l]]:=by
 have tk:(iz rs).take i.toNat=iz rs:=List.take_of_length_le (by rw[iB];omega);have hn:=h.n;obtain⟨o',eo,es⟩:=h.s;rw[tk]at hn es;obtain⟨e1,e2⟩:=RL hr g hn;refine⟨e1,?_⟩;rw[e2];unfold Tq;rw[es,eo];unfold OJ;cases d with
 |true=>rfl
 |false=>rw[if_neg (by simp),if_neg (by simp),dG];rfl
structure wl (rs:aa)(a0 l0 i:Int)(o:aa)(d:Bool):Prop where
 s:∃ o',o=rowP o'/\((iz rs).take i.toNat).foldl (oD (a0,l0)) ⟨[],false⟩=⟨o',d⟩
 n:∀ x∈(iz rs).take i.toNat,Aa x (a0,l0)=false
 m:o.length<=2*i.toNat
theorem RN :wl rs a0 l0 0 [] false:=⟨⟨[],rfl,rfl⟩,fun x hx=>by simp at hx,Nat.le_refl _⟩
theorem Lr (h:wl rs a0 l0 i o d)(i0:0<=i)(i1:i<rs.length)(nov:¬ (ag rs i 0<a0+l0/\a0<ag rs i 0+ag rs i 1)):∀ x∈(iz rs).take (i+1).toNat,Aa x (a0,l0)=false:=fun x hx=>by
 have e:=dK (es:=rs) i0 i1;rw[take_at i0 e]at hx;rcases List.mem_append.1 hx with q|q
 ·exact h.n x q
 ·rw[List.mem_singleton]at q;rw[q];cases z:Aa (ag rs i 0,ag rs i 1) (a0,l0)with
  |false=>rfl
  |true=>exact absurd (xf.1 z) nov
theorem N2 (i0:0<=i)(i1:i<rs.length)(x1:ag rs i 0<a0+l0)(x2:a0<ag rs i 0+ag rs i 1):rpB n rs a0 l0=false:=by
 have e:=dK (es:=rs) i0 i1;unfold rpB;have:((iz rs).all fun x=> !Aa x (a0,l0))=false:=by
  rw[List.all_eq_false];exact⟨_,List.mem_of_getElem? e,by rw[xf.2 ⟨x1,x2⟩];simp⟩
 rw[this];simp
theorem RO (h:wl rs a0 l0 i o d)(i0:0<=i)(i1:i<rs.length)(nov:¬ (ag rs i 0<a0+l0/\a0<ag rs i 0+ag rs i 1))(hd:d=false)(c:a0<ag rs i 0):
 wl rs a0 l0 (i+1) (o++[[.i a0,.i l0]]++[[.i (ag rs i 0),.i (ag rs i 1)]]) true:=by
 have e:=dK (es:=rs) i0 i1;obtain⟨o',eo,es⟩:=h.s;have m:=h.m;refine⟨⟨o'++[(a0,l0)]++[(ag rs i 0,ag rs i 1)],by rw[dG,dG,eo];rfl,?_⟩,Lr h i0 i1 nov,by simp only[List.length_append,List.length_cons,List.length_nil];omega⟩;rw[take_at i0 e,List.foldl_append,es,List.foldl_cons,List.foldl_nil];unfold oD;rw[if_pos ⟨hd,c⟩]
theorem HC (h:wl rs a0 l0 i o d)(i0:0<=i)(i1:i<rs.length)(nov:¬ (ag rs i 0<a0+l0/\a0<ag rs i 0+ag rs i 1))(c:¬ (d=false/\a0<ag rs i 0)):
 wl rs a0 l0 (i+1) (o++[[.i (ag rs i 0),.i (ag rs i 1)]]) d:=by
 have e:=dK (es:=rs) i0 i1;obtain⟨o',eo,es⟩:=h.s;have m:=h.m;refine⟨⟨o'++[(ag rs i 0,ag rs i 1)],by rw[dG,eo];rfl,?_⟩,Lr h i0 i1 nov,by simp only[List.length_append,List.length_cons,List.length_nil];omega⟩;rw[take_at i0 e,List.foldl_append,es,List.foldl_cons,List.foldl_nil];unfold oD;rw[if_neg c]
theorem te {l:List Pr}:iz (rowP l)=l:=by
 unfold iz rowP;rw[List.map_map];exact(List.map_congr_left fun x _=>rfl).trans (List.map_id l)
def jnR (rs:aa):aa:=rowP (Vw (iz rs))
theorem Ee (hr:rgOk n rs=true)(g:rngIn n a0 l0=true)(h:wl rs a0 l0 i o d)(i1:(rs.length:Int)<=i):rpB n rs a0 l0=true/\rpL n rs a0 l0=jnR (if d=true then o else o++[[.i a0,.i l0]]):=by
 have tk:(iz rs).take i.toNat=iz rs:=List.take_of_length_le (by rw[iB];omega);have hn:=h.n;obtain⟨o',eo,es⟩:=h.s;rw[tk]at hn es;obtain⟨e1,e2⟩:=RL hr g hn;have T:=vI hr;unfold rngIn at g;rw[Bool.and_eq_true]at g;have gl:=bE.1 g.1;refine⟨e1,?_⟩;rw[e2,RJ T.c (by show 0<l0;omega) (fun x hx q=>by have:=hn x hx;rw[xf.2 q]at this;cases this)];unfold jnR VN;rw[es,eo];unfold Jz;cases d with
 |true=>rw[if_pos rfl,if_pos rfl,te]
 |false=>rw[if_neg (by simp),if_neg (by simp),show rowP o'++[[.i a0,.i l0]]=rowP (o'++[(a0,l0)])from by rw[dG];rfl,te]
end
end Go.V
namespace Go.V
theorem Sj {o:aa}{n:Int}{x:Value}(h:Rw [tI,tI] o)(n0:0<=n)(n1:n<o.length):zA (.s 2 o) [(n.toNat,1)] [.v x]=o.set n.toNat [.i (ag o n 0),.v x]:=by
 show o.set n.toNat ((o.getD n.toNat []).take 1++[.v x]++(o.getD n.toNat []).drop (1+1))=_;rw[h.eta n0 n1];rfl
theorem R5 {o:aa}{n:Int}{j:Nat}(h:Rw [tI,tI] o)(n0:0<=n)(n1:n<o.length)(hj:j<2):∃ rec o',bN (.s 2 o) [(n.toNat,j)]=some (rec,o')/\o'+1<=rec.length:=eK (by omega) (by
 rw[h.eta n0 n1];show j+1<=2;omega)
theorem Ng {o:aa}{n:Int}{j:Nat}(h:Rw [tI,tI] o)(n0:0<=n)(n1:n<o.length)(hj:j<2):∃ rec o',bN (L.s 2 o) [(n.toNat,j)]=some (rec,o')/\o'+[L.v (Value.int IntKind.i64 0)].length<=rec.length/\List.take [L.v (Value.int IntKind.i64 0)].length (List.drop o' rec)=jt aj (L.s 2 o) [(n.toNat,j)] 0 [L.v (Value.int IntKind.i64 0)]:=by
 rcases(show j=0\/j=1 by omega)with rfl|rfl
 ·exact hE (z0:=[.i 0,.i 0]) (z:=[.i 0]) h.wf (by omega) rfl (by decide)
 ·exact hE (z0:=[.i 0,.i 0]) (z:=[.i 0]) h.wf (by omega) rfl (by decide)
theorem AW {l:aa}{sz j:Nat}{i:Int}(h0:0<=i):Lf (.s sz l) [(i.toNat,j)]=ag l i j:=by
 rw[Cm];unfold ag;rw[Int.toNat_natCast]
theorem EP {f:List Pr}{y:Pr}(h:f.getLast?=some y):f=f.dropLast++[y]:=by
 cases f with
 |nil=>cases h
 | cons a f=>
   rw[List.getLast?_eq_some_getLast (by simp)]at h;cases h;exact(List.dropLast_concat_getLast (by simp)).symm
structure Il (rs:aa)(i:Int)(o:aa):Prop where
 s:o=rowP (((iz rs).take i.toNat).foldl xP [])
 l:o.length<=i.toNat
section
variable {rs o : aa} {i : Int}
theorem P9 :Il rs 0 []:=⟨rfl,Nat.le_refl _⟩
theorem Gp (h:Il rs i o)(i0:0<=i)(i1:i<rs.length):(((iz rs).take (i+1).toNat).foldl xP [])=xP (((iz rs).take i.toNat).foldl xP []) (ag rs i 0,ag rs i 1):=by
 rw[take_at i0 (dK i0 i1),List.foldl_append];rfl
theorem Gn (h:Il rs i o)(n:0<o.length):(((iz rs).take i.toNat).foldl xP []).getLast?=some (ag o (o.length-1) 0,ag o (o.length-1) 1):=by
 have e:=h.s;have hl:o.length=(((iz rs).take i.toNat).foldl xP []).length:=by rw[e,oC]
 have t:=dK (es:=o) (i:=o.length-1) (by omega) (by omega);have q:iz o=((iz rs).take i.toNat).foldl xP []:=by rw[e,te]
 rw[q]at t;rw[List.getLast?_eq_getElem?, <-hl, <-t]
 congr 1;omega
theorem Qa (h:Il rs i o)(i0:0<=i)(i1:i<rs.length)(n:0<o.length)(q:ag o (o.length-1) 0+ag o (o.length-1) 1=ag rs i 0):
 Il rs (i+1) (o.set (o.length-1:Int).toNat [.i (ag o (o.length-1) 0),.i (ag o (o.length-1) 1+ag rs i 1)]):=by
 have la:=Gn h n;have hl:=h.l;refine⟨?_,by rw[List.length_set];omega⟩;rw[Gp h i0 i1];have e:=h.s;generalize((iz rs).take i.toNat).foldl xP []=f at la e;have fe:=EP la;generalize f.dropLast=g at fe;subst fe;rw[yR (by exact q),e,dG];have lg:((rowP g++rowP [(ag o (o.length-1) 0,ag o (o.length-1) 1)]).length-1:Int).toNat=(rowP g).length:=by
  rw[List.length_append];show(((rowP g).length+1:Nat)-1:Int).toNat=_;omega
 have eo:o=rowP g++rowP [(ag o (o.length-1) 0,ag o (o.length-1) 1)]:=by rw[<-dG];exact e
 rw[<-dG, <-e,show(o.length-1:Int).toNat=(rowP g).length from by rw[show(o.length:Int)=((rowP g++rowP [(ag o (o.length-1) 0,ag o (o.length-1) 1)]).length:Int)from by rw[<-eo]];exact lg];rw[dG]
 conv=>lhs;arg 1;rw[eo]
 rw[List.set_append_right (h:=Nat.le_refl _),Nat.sub_self];rfl
theorem Qb (h:Il rs i o)(i0:0<=i)(i1:i<rs.length)(q:(o.length:Int)<=0\/ag o (o.length-1) 0+ag o (o.length-1) 1≠ag rs i 0):
 Il rs (i+1) (o++[[.i (ag rs i 0),.i (ag rs i 1)]]):=by
 have hl:=h.l;refine⟨?_,by rw[List.length_append];show _+1<=_;omega⟩;rw[Gp h i0 i1,vg,dG, <-h.s];rfl;intro y hy;by_cases n:0<o.length
 ·rw[Gn h n]at hy;cases hy;rcases q with q|q
  ·omega
  ·exact q
 ·have:o=[]:=List.eq_nil_of_length_eq_zero (by omega);have e:=h.s;rw[this]at e;have z:((iz rs).take i.toNat).foldl xP []=[]:=by
   have:=congrArg List.length e;rw[oC]at this;exact List.eq_nil_of_length_eq_zero (by simpa using this.symm)
  rw[z]at hy;cases hy
theorem Dp (h:Il rs i o)(i1:(rs.length:Int)<=i):o=jnR rs:=by
 rw[h.s,List.take_of_length_le (by rw[iB];omega)];rfl
end
end Go.V
namespace Go.V
def O2 (rs:aa)(n:Int):Nat->Int
 |0=> -1
 |k+1=>if n<=ag rs k 1/\(O2 rs n k<0\/ag rs k 1<ag rs (O2 rs n k) 1)then k else O2 rs n k
def OS (rs:aa)(n:Int):Int:=O2 rs n rs.length
structure V7 (rs:aa)(n i b:Int):Prop where
 e:b=O2 rs n i.toNat
section
variable {rs : aa} {n i b : Int}
end
structure Wm (p:Int)(rs:aa)(n:Int):Prop where
 i0:0<=OS rs n
 i1:OS rs n<rs.length
 n0:1<=n
 a0:0<=ag rs (OS rs n) 0
 l0:n<=ag rs (OS rs n) 1
 e:ag rs (OS rs n) 0+ag rs (OS rs n) 1<=p
 p0:p<=32
end Go.V
namespace Go.V
def TO (b:Int):Nat->aa
 |0=>[]
 |k+1=>if hsB b k=true then TO b k else TO b k++[[.i k]]
structure Wa (b i:Int)(o:aa):Prop where
 e:o=TO b i.toNat
end Go.V
namespace Go.V
theorem Ob {ls r:aa}{k:Nat}(h:Rw [.sl [tI]] ls)(g:Rw [tI] r):Rw [.sl [tI]] (ls.set k [.s 1 r]):=Rw.set h (show b9 [.sl [tI]] [.s 1 r]from⟨⟨rfl,g⟩,trivial⟩) _
end Go.V
namespace Go.V
def VL :aa->Int->Nat
 |[],_=>0
 |e::l,r=>if qcI (e::l)<=r then 0 else VL l r+1
structure Wk (l:aa)(r i:Int):Prop where
 e:i.toNat<=VL l r
section
variable {l : aa} {r i : Int}
end
def VM :aa->Int->Nat
 |[],_=>0
 |e::l,t=>if KZ (e.getD 2 .g)<t then VM l t+1 else 0
structure Wl (l:aa)(t i:Int):Prop where
 e:i.toNat<=VM l t
section
variable {l : aa} {t i : Int}
end
end Go.V
namespace Go.V
theorem C9 {k:Nat}:∀ {l:aa},(∀ e∈l,cI e<=k)->bD l<=k*l.length
 |[],_=>Nat.zero_le _
 | e::l,h=>by
   have a:=h e (by simp);have b:=C9 (l:=l) (fun x hx=>h x (by simp[hx]));simp only[bD,List.length_cons,Nat.mul_succ];omega
theorem DI {cs us es:aa}(h:lT cs us es)(rc:Rw [.sl [tI]] cs)(ru:Rw [tB] us)(re:Rw [tI,tI] es):ah cs<=1024/\ah us<=64/\ah es<=64:=by
 have n1:=h.n1;have hu:=h.u;have e1:=h.e1;refine⟨?_,?_,?_⟩
 ·have q:bD cs<=16*cs.length:=C9 fun e he=>by
   obtain⟨i,hi,rfl⟩:=List.getElem_of_mem he;have a:=rc.eta (i:=i) (by omega) (by omega);rw[List.getD_eq_getElem?_getD,Int.toNat_natCast,List.getElem?_eq_getElem hi,Option.getD_some]at a;rw[a];show cI [.s 1 (aR cs i 0)]<=16;have l:=h.l i (by omega) (by omega);have w:=(Rw.sub (fs:=[.sl [tI]]) (j:=0) (i:=(i:Int)) rc (by omega) rfl).cnt rfl;have e:cI [.s 1 (aR cs i 0)]=ah (aR cs i 0):=by simp only[cI,eC,ah];omega
   rw[e,w];omega
  unfold ah;omega
 ·rw[ru.cnt rfl];omega
 ·rw[re.cnt rfl];omega
def kuC (cs es:aa)(p:Int):aa:=if peM es p≠0 then dfC cs (yc es p) (peF es p)else cs
def kuU (us es:aa)(p:Int):aa:=if peM es p≠0 then dfU us (yc es p) (peF es p)else us
def kuE (es:aa)(p:Int):aa:=if peM es p≠0 then yc es p else es
theorem Uk {cs us es:aa}{p:Int}(h:lT cs us es):lT (kuC cs es p) (kuU us es p) (kuE es p):=by
 unfold kuC kuU kuE;by_cases g:peM es p≠0
 ·rw[if_pos g,if_pos g,if_pos g];exact Sg h g
 ·rw[if_neg g,if_neg g,if_neg g];exact h
theorem V4 {us:aa}{n:Nat}{b:Bool}(h:Rw [tB] us):Rw [tB] (us.set n [.v (.bool b)]):=Rw.set h (show b9 [tB] [.v (.bool b)]from⟨trivial,trivial⟩) _
theorem JA {es:aa}{p m f:Int}(h:Rw [tI,tI] es)(hm: -9223372036854775808<=m/\m<=9223372036854775807)(hf: -9223372036854775808<=f/\f<=9223372036854775807):Rw [tI,tI] (V5 es p m f):=Rw.set h (show b9 [tI,tI] [.i m,.i f]from⟨⟨rfl,hm⟩,⟨rfl,hf⟩,trivial⟩) _
theorem UQ {cs es:aa}{f:Int}(h:Rw [.sl [tI]] cs):Rw [.sl [tI]] (dfC cs es f):=by
 unfold dfC;split
 ·exact h
 ·exact Ob h (Rw.replicate (show b9 [tI] [.i 0]from⟨⟨rfl,show-9223372036854775808<=(0:Int)/\(0:Int)<=9223372036854775807 from by omega⟩,trivial⟩) (by unfold maxLen;omega))
theorem UR {us es:aa}{f:Int}(h:Rw [tB] us):Rw [tB] (dfU us es f):=by
 unfold dfU;split
 ·exact h
 ·exact V4 h
theorem Qi {cs us es:aa}{p:Int}(hc:Rw [.sl [tI]] cs)(hu:Rw [tB] us)(he:Rw [tI,tI] es):Rw [.sl [tI]] (kuC cs es p)/\Rw [tB] (kuU us es p)/\Rw [tI,tI] (kuE es p):=by
 unfold kuC kuU kuE;refine⟨?_,?_,?_⟩<;>split
 ·exact UQ hc
 ·exact hc
 ·exact UR hu
 ·exact hu
 ·exact JA (m:=0) (f:=0) he (by omega) (by omega)
 ·exact he
theorem mg {cs us es rs:aa}{c:Int}(h:kerOk cs us es c rs=true):lT cs us es/\0<=c/\c<=100000/\kZ rs=true:=by
 unfold kerOk at h;simp only[Bool.and_eq_true]at h;have r:=bE.1 h.1.2;exact⟨Nv h.1.1,r.1,r.2,h.2⟩
theorem Gs {cs us es rs:aa}{c:Int}(h:lT cs us es)(c0:0<=c)(c1:c<=100000)(r:kZ rs=true):kerOk cs us es c rs=true:=I8 (Nw h) (bE.2 ⟨c0,c1⟩) r
end Go.V
namespace Go.V
structure gg (a0 a1 a2 a4 a5 a6 a7 a8 a9 aA aB aD aL:aa):Prop where
 r0:Rw [.sl [tI]] a0
 r1:Rw [tB] a1
 r2:Rw [tI,tI] a2
 r4:Rw [tI] a4
 r5:Rw [tI,tI] a5
 r6:Rw [tI,tI,tI] a6
 r7:Rw [tI,tI,tI] a7
 r8:Rw [tI,tI,tI,tI] a8
 r9:Rw [.sl [.sl [tI]]] a9
 r10:Rw [.sl [tI,tI]] aA
 r11:Rw [.sl [tI]] aB
 r13:Rw [tI,tI,tI] aD
 r21:Rw [tI] aL
 c0:ah a0<=1073741824
 c1:ah a1<=1073741824
 c2:ah a2<=1073741824
 c4:ah a4<=1073741824
 c5:ah a5<=1073741824
 c6:ah a6<=1073741824
 c7:ah a7<=1073741824
 c8:ah a8<=1073741824
 c9:ah a9<=1073741824
 c10:ah aA<=1073741824
 c11:ah aB<=1073741824
 c13:ah aD<=1073741824
 c21:ah aL<=1073741824
theorem gg.hp {a0 a1 a2 a4 a5 a6 a7 a8 a9 aA aB aD aL:aa}(h:gg a0 a1 a2 a4 a5 a6 a7 a8 a9 aA aB aD aL):E4 a0 a1 a2 a4 a5 a6 a7 a8 a9 aA aB aD aL:=by
 have l2:=ay (es:=a2);have l5:=ay (es:=a5);have l6:=ay (es:=a6);have l7:=ay (es:=a7);have l8:=ay (es:=a8);have l13:=ay (es:=aD);have l21:=ay (es:=aL);have c2:=h.c2;have c5:=h.c5;have c6:=h.c6;have c7:=h.c7;have c8:=h.c8;have c13:=h.c13;have c21:=h.c21;exact⟨⟨h.r6,h.r7,h.r8,h.r9,h.r13,NI h.r10 h.r11 h.c10 h.c11,NG h.r9 h.c9,by omega,by omega,by omega,by omega,h.c9⟩,h.r0,h.r1,h.r2,by omega,h.r4,h.r5,by omega,h.r21,by omega⟩
theorem Oe {fs:List Ty}{es:aa}{i:Int}(h:Rw [.sl fs] es)(h0:0<=i)(h1:i<es.length):Rw fs (aR es i 0):=Rw.sub (fs:=[.sl fs]) (j:=0) (i:=i) h (by omega) rfl
end Go.V
namespace Go.V
theorem LK {b x:aa}{i:Int}(h:Rw [.sl [tI]] b)(h0:0<=i)(h1:i<b.length):zA (.s 1 b) [(i.toNat,0)] [.s 1 x]=b.set i.toNat [.s 1 x]:=lO (by rw[h.eta h0 h1];rfl)
theorem R6 {fs:List Ty}{b:aa}{i:Int}(h:Rw [.sl fs] b)(h0:0<=i)(h1:i<b.length):∃ rec o',bN (.s 1 b) [(i.toNat,0)]=some (rec,o')/\o'+1<=rec.length:=eK (by omega) (by rw[h.eta h0 h1];exact Nat.le_refl _)
end Go.V
namespace Go.V
def ccB (cs us es:aa)(c:Int)(rs:aa):Bool:=decide (c≠100000)&&kerOk cs us es c rs
theorem FE {cs us es rs:aa}{c:Int}(h:ccB cs us es c rs=true):c≠100000/\kerOk cs us es c rs=true:=by
 unfold ccB at h;rw[Bool.and_eq_true,decide_eq_true_eq]at h;exact h
theorem O9 {cs us es rs:aa}{c:Int}(h:c=100000):ccB cs us es c rs=false:=by unfold ccB;rw[decide_eq_false (fun n=>n h)];rfl
theorem Km {cs us es rs:aa}{c:Int}(h:c≠100000):ccB cs us es c rs=kerOk cs us es c rs:=by unfold ccB;rw[decide_eq_true h];rfl
theorem Pb {cs us es rs:aa}{c:Int}(h:kerOk cs us es c rs=false):ccB cs us es c rs=false:=by unfold ccB;rw[h];simp
theorem Pd {cs us es rs:aa}{c:Int}(h:kerOk cs us es c rs=true):cD .lss c 100000=ccB cs us es c rs:=by
 have q:=(mg h).2;unfold ccB;rw[h,Bool.and_true];show decide (c<100000)=_;by_cases e:c=100000
 ·rw[decide_eq_false (by omega),decide_eq_false (by simp[e])]
 ·rw[decide_eq_true (by omega),decide_eq_true e]
def ktC (k:Bool)(cs es:aa)(p:Int):aa:=if k=true then kuC cs es p else cs
def ktU (k:Bool)(us es:aa)(p:Int):aa:=if k=true then kuU us es p else us
def ktE (k:Bool)(es:aa)(p:Int):aa:=if k=true then kuE es p else es
def ktB (k:Bool)(es:aa)(p:Int):Bool:=k&&mapB es p
theorem Qf {k:Bool}{cs us es:aa}{p:Int}(h:k=false):ktC k cs es p=cs/\ktU k us es p=us/\ktE k es p=es/\ktB k es p=false:=by subst h;exact⟨rfl,rfl,rfl,rfl⟩
theorem Qg {k:Bool}{cs us es:aa}{p:Int}(h:k=true):ktC k cs es p=kuC cs es p/\ktU k us es p=kuU us es p/\ktE k es p=kuE es p/\ktB k es p=mapB es p:=by subst h;exact⟨rfl,rfl,rfl,rfl⟩
theorem Qh {cs us es:aa}{p:Int}(h:mapB es p=false):kuC cs es p=cs/\kuU us es p=us/\kuE es p=es:=by
 unfold mapB at h;have:=of_decide_eq_false h;unfold kuC kuU kuE;rw[if_neg this,if_neg this,if_neg this];exact⟨rfl,rfl,rfl⟩
theorem Qj {cs us es:aa}{p:Int}(h:mapB es p=true):kuC cs es p=dfC cs (yc es p) (peF es p)/\kuU us es p=dfU us (yc es p) (peF es p)/\kuE es p=yc es p:=by
 unfold mapB at h;have:=of_decide_eq_true h;unfold kuC kuU kuE;rw[if_pos this,if_pos this,if_pos this];exact⟨rfl,rfl,rfl⟩
theorem Uj {k:Bool}{cs us es:aa}{p:Int}(h:mapB es p=false):ktC k cs es p=cs/\ktU k us es p=us/\ktE k es p=es/\ktB k es p=false:=by
 cases k with
 |false=>exact Qf rfl
 |true=>have q:=Qh (cs:=cs) (us:=us) h;exact⟨q.1,q.2.1,q.2.2,h⟩
theorem yV {es:aa}{p:Int}(h:mapB es p=true):(0<=p/\p<es.length)/\peM es p=ag es p 0/\peF es p=ag es p 1/\peM es p≠0:=by
 unfold mapB at h;have:=of_decide_eq_true h;have q:=Hf this;exact⟨q.1,q.2.1,q.2.2,this⟩
theorem yW {cs us es:aa}{p:Int}(m:lT cs us es)(h:mapB es p=true):0<=ag es p 1/\ag es p 1<cs.length:=by
 have q:=yV h;have e:=m.e p q.1.1 q.1.2;exact e.2.2.2 (by have:=q.2.1;have:=q.2.2.2;omega)
theorem TF {cs us es:aa}{f:Int}(h:((pagesOn es f).length:Int)=0):dfC cs es f=cs.set f.toNat [.s 1 (jK 16 [.i 0])]/\dfU us es f=us.set f.toNat [.v (.bool false)]:=by
 have e:ez es f=false:=Je (by omega);unfold dfC dfU;rw[e];exact⟨rfl,rfl⟩
theorem TG {cs us es:aa}{f:Int}(h:¬ ((pagesOn es f).length:Int)=0):dfC cs es f=cs/\dfU us es f=us:=by
 have e:ez es f=true:=yX.2 (by omega);unfold dfC dfU;rw[e];exact⟨rfl,rfl⟩
theorem LJ {es:aa}{p:Int}(h:Rw [tI,tI] es)(p0:0<=p)(p1:p<es.length):zA (.s 2 es) [(p.toNat,0)] [.i 0,.i 0]=yc es p:=by
 unfold yc;exact lO (by rw[h.eta p0 p1];rfl)
theorem yU {es:aa}{p:Int}:(kuE es p).length=es.length:=by
 unfold kuE yc;split
 ·exact List.length_set
 ·rfl
structure K3 where
 c:aa
 u:aa
 e:aa
def Db (a0 a1 a2:aa)(t:Int):Nat->K3
 |0=>⟨a0,a1,a2⟩
 |n+1=>⟨kuC (Db a0 a1 a2 t n).c (Db a0 a1 a2 t n).e (t+n),kuU (Db a0 a1 a2 t n).u (Db a0 a1 a2 t n).e (t+n),kuE (Db a0 a1 a2 t n).e (t+n)⟩
theorem Dc {a0 a1 a2:aa}{t:Int}{n:Nat}:Db a0 a1 a2 t (n+1)=⟨kuC (Db a0 a1 a2 t n).c (Db a0 a1 a2 t n).e (t+n),kuU (Db a0 a1 a2 t n).u (Db a0 a1 a2 t n).e (t+n),kuE (Db a0 a1 a2 t n).e (t+n)⟩:=rfl
def duC (a0 a1 a2:aa)(t l:Int):aa:=(Db a0 a1 a2 t l.toNat).c
def duU (a0 a1 a2:aa)(t l:Int):aa:=(Db a0 a1 a2 t l.toNat).u
def duE (a0 a1 a2:aa)(t l:Int):aa:=(Db a0 a1 a2 t l.toNat).e
theorem TK {a0 a1 a2:aa}{t:Int}:duC a0 a1 a2 t 1=kuC a0 a2 t/\duU a0 a1 a2 t 1=kuU a1 a2 t/\duE a0 a1 a2 t 1=kuE a2 t:=by
 unfold duC duU duE;have z:t+((0:Nat):Int)=t:=by omega
 rw[show(1:Int).toNat=0+1 from rfl,Dc,z];exact⟨rfl,rfl,rfl⟩
structure H9 (a0 a1 a2:aa)(t p:Int)(c u e:aa):Prop where
 m:lT c u e
 rc:Rw [.sl [tI]] c
 ru:Rw [tB] u
 re:Rw [tI,tI] e
 l:e.length=a2.length
 ec:c=duC a0 a1 a2 t (p-t)
 eu:u=duU a0 a1 a2 t (p-t)
 ee:e=duE a0 a1 a2 t (p-t)
section
variable {a0 a1 a2 c u e : aa} {t p : Int}
theorem FL (m:lT a0 a1 a2)(rc:Rw [.sl [tI]] a0)(ru:Rw [tB] a1)(re:Rw [tI,tI] a2):H9 a0 a1 a2 t t a0 a1 a2:=by
 have z:(t-t).toNat=0:=by omega
 refine⟨m,rc,ru,re,rfl,?_,?_,?_⟩
 ·unfold duC;rw[z];rfl
 ·unfold duU;rw[z];rfl
 ·unfold duE;rw[z];rfl
theorem yE (h:H9 a0 a1 a2 t p c u e)(p0:t<=p):H9 a0 a1 a2 t (p+1) (kuC c e p) (kuU u e p) (kuE e p):=by
 have w:=Qi (p:=p) h.rc h.ru h.re;have s:(p+1-t).toNat=(p-t).toNat+1:=by omega
 have q:t+((p-t).toNat:Int)=p:=by omega
 refine⟨Uk h.m,w.1,w.2.1,w.2.2,by rw[yU];exact h.l,?_,?_,?_⟩
 ·rw[h.ec,h.ee];unfold duC duE;rw[s,Dc,q]
 ·rw[h.eu,h.ee];unfold duU duE;rw[s,Dc,q]
 ·rw[h.ee];unfold duE;rw[s,Dc,q]
theorem yD {l:Int}(h:H9 a0 a1 a2 t p c u e)(p1:t+l<=p)(p2:p<=t+l):c=duC a0 a1 a2 t l/\u=duU a0 a1 a2 t l/\e=duE a0 a1 a2 t l:=by
 have q:p-t=l:=by omega
 exact⟨q▸h.ec,q▸h.eu,q▸h.ee⟩
theorem De (h:H9 a0 a1 a2 t p c u e):ah c<=1024/\ah u<=64/\ah e<=64:=DI h.m h.rc h.ru h.re
theorem Dd (m:lT a0 a1 a2)(rc:Rw [.sl [tI]] a0)(ru:Rw [tB] a1)(re:Rw [tI,tI] a2):∀ n:Nat,H9 a0 a1 a2 t (t+n) (duC a0 a1 a2 t n) (duU a0 a1 a2 t n) (duE a0 a1 a2 t n)
 |0=>by have:=FL (t:=t) m rc ru re;rw[show t+((0:Nat):Int)=t by omega];exact this
 | n+1=>by
   have h:=yE (Dd m rc ru re n) (by omega);have e:((n+1:Nat):Int)=(n:Int)+1:=by omega
   rw[show t+((n+1:Nat):Int)=t+n+1 by omega];exact h
end
def ifR (b:Bool)(x y:aa):aa:=if b=true then x else y
theorem pN {o o':aa}{r r':Bool}(h2:o=o')(h3:r=r'):[DV.one (.s 2 o),DV.k r]=[DV.one (.s 2 o'),DV.k r']:=by rw[h2,h3]
end Go.V
namespace Go.V
theorem HB {r:Pr}:∀ {l:List Pr} {s:Sp} {x:Pr},x∈(l.foldl (oD r) s).o->x∈s.o\/x=r\/x∈l
 |[],s,x,h=>.inl h
 | y::l,s,x,h=>by
   rw[List.foldl_cons]at h;rcases HB h with q|q|q
   ·unfold oD at q;split at q
    ·simp only[List.mem_append,List.mem_singleton]at q;rcases q with(q|q)|q
     ·exact .inl q
     ·exact .inr (.inl q)
     ·exact .inr (.inr (by rw[q];exact List.mem_cons_self ..))
    ·simp only[List.mem_append,List.mem_singleton]at q;rcases q with q|q
     ·exact .inl q
     ·exact .inr (.inr (by rw[q];exact List.mem_cons_self ..))
   ·exact .inr (.inl q)
   ·exact .inr (.inr (List.mem_cons_of_mem _ q))
structure OG (rs:aa):Prop where
 w:Rw [tI,tI] rs
 b:∀ i:Int,0<=i->i<rs.length->0<=ag rs i 0/\ag rs i 0<=64/\0<=ag rs i 1/\ag rs i 1<=64
theorem HK {l:List Pr}(h:∀ x∈l,0<=x.1/\x.1<=64/\0<=x.2/\x.2<=64)(n:l.length<=maxLen):OG (rowP l):=by
 refine⟨s9 (fun x hx=>by have:=h x hx;omega) n,fun i i0 i1=>?_⟩;have t:=dK (es:=rowP l) i0 i1;rw[te]at t;exact h _ (List.mem_of_getElem? t)
theorem Si {o:aa}{n:Int}{b:Bool}(h:Rw [tB] o)(h0:0<=n)(h1:n<o.length):zA (.s 1 o) [(n.toNat,0)] [.v (.bool b)]=o.set n.toNat [.v (.bool b)]:=lO (by rw[h.eta h0 h1];rfl)
theorem Vf {o:aa}{n:Int}(h:Rw [tB] o)(h0:0<=n)(h1:n<o.length):∃ rec o',bN (.s 1 o) [(n.toNat,0)]=some (rec,o')/\o'+1<=rec.length:=eK (by omega) (by rw[h.eta h0 h1];exact Nat.le_refl _)
theorem LA {es:aa}{p:Int}(h:Rw [tI,tI] es)(p0:0<=p)(p1:p<es.length):∃ rec o,bN (.s 2 es) [(p.toNat,0)]=some (rec,o)/\o+2<=rec.length:=eK (by omega) (by rw[h.eta p0 p1];exact Nat.le_refl _)
section
variable {n a0 l0 i : Int} {rs o : aa} {d : Bool}
theorem D9 (g:rngIn n a0 l0=true)(T:Ib n rs):0<=a0/\1<=l0/\a0+l0<=32:=by
 unfold rngIn at g;simp only[Bool.and_eq_true]at g;have p:=bE.1 g.1;have q:=bE.1 g.2;have:=T.n1;omega
theorem N4 (T:Ib n rs)(g:rngIn n a0 l0=true)(h:wl rs a0 l0 i o d)(k:rs.length<=1073741824)(i1:i<=rs.length):OG (if d=true then o else o++[[.i a0,.i l0]]):=by
 obtain⟨o',eo,es⟩:=h.s;have gb:=D9 g T;have m:=h.m;have mb:∀ x∈o',0<=x.1/\x.1<=64/\0<=x.2/\x.2<=64:=fun x hx=>by
  have q:=HB (r:=(a0,l0)) (l:=(iz rs).take i.toNat) (s:=⟨[],false⟩) (x:=x) (by rw[es];exact hx);rcases q with q|q|q
  ·cases q
  ·rw[q];simp only;omega
  ·have:=T.b _ (List.mem_of_mem_take q);have:=T.n1;omega
 have ol:o.length=o'.length:=by rw[eo,oC]
 cases d with
 |true=>rw[if_pos rfl,eo];exact HK mb (by unfold maxLen;omega)
 | false=>
   rw[if_neg (by simp),eo];have e:rowP o'++[[.i a0,.i l0]]=rowP (o'++[(a0,l0)]):=by rw[dG];rfl
   rw[e];refine HK (fun x hx=>?_) (by unfold maxLen;simp only[List.length_append,List.length_cons,List.length_nil];omega);rcases List.mem_append.1 hx with q|q
   ·exact mb x q
   ·rw[List.mem_singleton]at q;rw[q];simp only;omega
structure LX (rs:aa)(i:Int)(o:aa)(n:Nat):Prop where
 p:Il rs i o
 n:n=o.length
 w:Rw [tI,tI] o
 b:∀ k:Int,0<=k->k<o.length->0<=ag o k 0/\ag o k 0<=64/\0<=ag o k 1/\ag o k 1<=64*i
theorem Qc :LX rs 0 [] 0:=⟨P9,rfl,Rw.nil,fun k k0 k1=>by simp at k1;omega⟩
theorem gP {o:aa}{r:aP}{k:Nat}:(o++[r]).getD k []=if k<o.length then o.getD k []else if k=o.length then r else[]:=by
 rw[List.getD_eq_getElem?_getD,List.getD_eq_getElem?_getD];by_cases c:k<o.length
 ·rw[if_pos c,List.getElem?_append_left c]
 ·rw[if_neg c,List.getElem?_append_right (by omega)];by_cases e:k=o.length
  ·rw[if_pos e,e,Nat.sub_self];rfl
  ·rw[if_neg e,List.getElem?_eq_none (by simp;omega)];rfl
theorem Vv {o:aa}{r:aP}{k:Int}{j:Nat}(k0:0<=k)(k1:k<=o.length):ag (o++[r]) k j=if k<o.length then ag o k j else KZ (r.getD j .g):=by
 unfold ag;rw[gP];by_cases c:k<o.length
 ·rw[if_pos c,if_pos (by omega)]
 ·rw[if_neg c,if_neg (by omega),if_pos (by omega)]
theorem Qd {m:Nat}(h:LX rs i o m)(S:OG rs)(i0:0<=i)(i1:i<rs.length)(k:rs.length<=4294967296)(n0:0<(m:Int))(q:ag o ((m:Int)-1) 0+ag o ((m:Int)-1) 1=ag rs i 0):
 LX rs (i+1) (o.set ((m:Int)-1).toNat [.i (ag o ((m:Int)-1) 0),.i (ag o ((m:Int)-1) 1+ag rs i 1)]) m:=by
 have e:=h.n;subst e;have b:=h.b (o.length-1) (by omega) (by omega);have s:=S.b i i0 i1;refine⟨Qa h.p i0 i1 (by omega) q,by rw[List.length_set],JA (p:=o.length-1) (m:=ag o (o.length-1) 0) (f:=ag o (o.length-1) 1+ag rs i 1) h.w (by omega) (by omega),fun t t0 t1=>?_⟩;rw[List.length_set]at t1;have c:=h.b t t0 t1;rw[Px (by omega) (by omega) t0,Px (by omega) (by omega) t0];by_cases z:t=o.length-1
 ·rw[if_pos z,if_pos z];show 0<=ag o (o.length-1) 0/\ag o (o.length-1) 0<=64/\0<=ag o (o.length-1) 1+ag rs i 1/\ag o (o.length-1) 1+ag rs i 1<=64*(i+1);omega
 ·rw[if_neg z,if_neg z];omega
theorem Qe {m:Nat}(h:LX rs i o m)(S:OG rs)(i0:0<=i)(i1:i<rs.length)(k:rs.length<=4294967296)(q:(m:Int)<=0\/ag o ((m:Int)-1) 0+ag o ((m:Int)-1) 1≠ag rs i 0):
 LX rs (i+1) (o++[[.i (ag rs i 0),.i (ag rs i 1)]]) (o++[[L.i (ag rs i 0),L.i (ag rs i 1)]]).length:=by
 have e:=h.n;subst e;have s:=S.b i i0 i1;have l:=h.p.l;refine⟨Qb h.p i0 i1 q,rfl,Rw.append h.w (s9 (l:=[(ag rs i 0,ag rs i 1)]) (fun x hx=>by rw[List.mem_singleton]at hx;rw[hx];simp only;omega) (by unfold maxLen;simp)) (by unfold maxLen;simp only[List.length_cons,List.length_nil];omega),fun t t0 t1=>?_⟩;rw[List.length_append,List.length_cons,List.length_nil]at t1;rw[Vv t0 (by omega),Vv t0 (by omega)];by_cases c:t<o.length
 ·have b:=h.b t t0 c;rw[if_pos c,if_pos c];omega
 ·rw[if_neg c,if_neg c];show 0<=ag rs i 0/\ag rs i 0<=64/\0<=ag rs i 1/\ag rs i 1<=64*(i+1);omega
end
end Go.V
namespace Go.V
theorem BW {a0 a1 a2 a4 a5 a6 a7 a8 a9 aA aB aD aL:aa}(h0:Rw [.sl [tI]] a0)(h1:Rw [tB] a1)(h2:Rw [tI,tI] a2)(h4:Rw [tI] a4)(h5:Rw [tI,tI] a5)(h6:Rw [tI,tI,tI] a6)(h7:Rw [tI,tI,tI] a7)(h8:Rw [tI,tI,tI,tI] a8)(h9:Rw [.sl [.sl [tI]]] a9)(h10:Rw [.sl [tI,tI]] aA)(h11:Rw [.sl [tI]] aB)(h13:Rw [tI,tI,tI] aD)(h21:Rw [tI] aL)(hs:aw [a0,a1,a2,a4,a5,a6,a7,a8,a9,aA,aB,aD,aL]<=1048576):gg a0 a1 a2 a4 a5 a6 a7 a8 a9 aA aB aD aL:=by
 obtain⟨c0,c1,c2,c4,c5,c6,c7,c8,c9,c10,c11,c13,c21⟩:=xv hs;exact⟨h0,h1,h2,h4,h5,h6,h7,h8,h9,h10,h11,h13,h21,by omega,by omega,by omega,by omega,by omega,by omega,by omega,by omega,by omega,by omega,by omega,by omega,by omega⟩
theorem Mf {r0 r1 r2 r3 r4 r5 r6 r7 r8 r9 r10 r11 r12:aa}(c0:ah r0<=8388608)(c1:ah r1<=8388608)(c2:ah r2<=8388608)(c3:ah r3<=8388608)(c4:ah r4<=8388608)(c5:ah r5<=8388608)(c6:ah r6<=8388608)(c7:ah r7<=8388608)(c8:ah r8<=8388608)(c9:ah r9<=8388608)(c10:ah r10<=8388608)(c11:ah r11<=8388608)(c12:ah r12<=8388608):aw [r0,r1,r2,r3,r4,r5,r6,r7,r8,r9,r10,r11,r12]<=1099511627776:=by
 simp only[aw];omega
end Go.V
namespace Go.V
section
variable {n a0 l0 : Int} {rs : aa}
theorem N5 {x y:Pr}(hx:0<=x.1/\x.1<=64/\0<=x.2/\x.2<=64)(hy:0<=y.1/\y.1<=64/\0<=y.2/\y.2<=64):Rw [tI,tI] (rowP [x,y]):=s9 (fun z hz=>by
 rcases List.mem_cons.1 hz with q|q
 ·rw[q];omega
 ·rw[List.mem_singleton]at q;rw[q];omega) (by unfold maxLen;simp)
theorem Ls {x:Pr}(hx:0<=x.1/\x.1<=64/\0<=x.2/\x.2<=64):Rw [tI,tI] (rowP [x]):=s9 (fun z hz=>by
 rw[List.mem_singleton]at hz;rw[hz];omega) (by unfold maxLen;simp)
theorem Ec (T:Ib n rs)(g:rngIn n a0 l0=true)(hl:rs.length<=1073741824)(nov:∀ x∈iz rs,Aa x (a0,l0)=false):∀ i:Nat,i<=rs.length->∃ o x y d,BI rs a0 l0 i o x y d/\Rw [tI,tI] o/\o.length<=2*i
 |0,_=>⟨[],a0,l0,false,Ln (D9 g T),Rw.nil,Nat.le_refl _⟩
 | i+1,hi=>by
   obtain⟨o,x,y,d,h,rw_,ol⟩:=Ec T g hl nov i (by omega);have e:=dK (es:=rs) (i:=(i:Int)) (by omega) (by omega);have m:(ag rs i 0,ag rs i 1)∈(iz rs).drop (i:Int).toNat:=by rw[drop_at (by omega) e];simp
   have v:=h.v _ m;rw[nov _ (List.mem_of_mem_drop m)]at v;have no:¬ (ag rs i 0<x+y/\x<ag rs i 0+ag rs i 1):=fun c=>by rw[xf.2 c]at v;cases v
   have b:=T.b _ (List.mem_of_mem_drop m);have hb:=h.b;have:=T.n1;have bp:0<=ag rs i 0/\ag rs i 0<=64/\0<=ag rs i 1/\ag rs i 1<=64:=⟨b.1,by have:=b.2.1;have:=b.2.2;omega,by have:=b.2.1;omega,by have:=b.1;have:=b.2.2;omega⟩;have c:((i+1:Nat):Int)=(i:Int)+1:=by omega
   rw[c];by_cases q1:ag rs i 0+ag rs i 1=x
   ·exact⟨o,_,_,d,Lo T h (by omega) (by omega) no q1,rw_,by omega⟩
   by_cases q2:x+y=ag rs i 0
   ·exact⟨o,_,_,d,Lp T h (by omega) (by omega) no q1 q2,rw_,by omega⟩
   by_cases q3:x<ag rs i 0/\d=false
   ·exact⟨_,_,_,true,Lq T h (by omega) (by omega) no q1 q2 q3.1 q3.2,Rw.append rw_ (N5 (x:=(x,y)) (y:=(ag rs i 0,ag rs i 1)) (by simp only;omega) bp) (by unfold maxLen;show _+2<=_;omega),by rw[List.length_append];show _+2<=_;omega⟩
   ·exact⟨_,_,_,d,HA T h (by omega) (by omega) no q1 q2 q3,Rw.append rw_ (Ls (x:=(ag rs i 0,ag rs i 1)) bp) (by unfold maxLen;show _+1<=_;omega),by rw[List.length_append];show _+1<=_;omega⟩
theorem Cv (w:Rw [tI,tI] rs)(hl:rs.length<=1073741824):Rw [tI,tI] (rpL n rs a0 l0)/\(rpL n rs a0 l0).length<=2*rs.length+1:=by
 cases h:rpB n rs a0 l0 with
 |false=>rw[A3 h];exact⟨w,by omega⟩
 | true=>
   unfold rpB at h;simp only[Bool.and_eq_true,List.all_eq_true]at h;obtain⟨h1,h2,h3⟩:=h;have T:=vI h1;have nov:∀ x∈iz rs,Aa x (a0,l0)=false:=fun x hx=>by have:=h3 x hx;simpa using this
   obtain⟨o,x,y,d,p,r,l⟩:=Ec T h2 hl nov rs.length (Nat.le_refl _);have e:=ta h1 h2 p (by omega);rw[e.2];cases d with
   |true=>rw[if_pos rfl];exact⟨r,by omega⟩
   | false=>
     rw[if_neg (by simp)];have b:=p.b;exact⟨Rw.append r (Ls (x:=(x,y)) (by simp only;omega)) (by unfold maxLen;show _+1<=_;omega),by rw[List.length_append];show _+1<=_;omega⟩
theorem Eb (w:Rw [tI,tI] rs)(hl:rs.length<=1073741824):ah (rpL n rs a0 l0)<=2*rs.length+1:=by
 have h:=Cv (n:=n) (a0:=a0) (l0:=l0) w hl;rw[h.1.cnt rfl];exact h.2
end
theorem Mi {c u e a0 a1 a2 a4:aa}{a3:Int}(m:lT c u e)(h:kerOk a0 a1 a2 a3 a4=true)(n:a3≠100000):ccB c u e a3 a4=true:=by
 have k:=(mg h).2;unfold ccB;rw[decide_eq_true n,Gs m k.1 k.2.1 k.2.2];rfl
def bsB (m:Bool)(k v p:Int):Bool:=m&&(decide (k=p)||decide (v=p))
theorem O5 {m:Bool}{k v p:Int}(h:m=false):bsB m k v p=false:=by subst h;rfl
theorem O3 {m:Bool}{k v p:Int}(h:m=true)(e:k=p):bsB m k v p=true:=by subst h;unfold bsB;rw[decide_eq_true e];rfl
theorem O4 {m:Bool}{k v p:Int}(h:m=true)(e:k≠p):bsB m k v p=decide (v=p):=by subst h;unfold bsB;rw[decide_eq_false e];rfl
def dsC (a0 a1 a2 a6:aa)(i:Int):aa:=duC a0 a1 a2 (ag a6 i 0) 1
def dsU (a0 a1 a2 a6:aa)(i:Int):aa:=duU a0 a1 a2 (ag a6 i 0) 1
def dsE (a0 a1 a2 a6:aa)(i:Int):aa:=duE a0 a1 a2 (ag a6 i 0) 1
def dsF (a0 a1 a2 a5 a6:aa)(i:Int):aa:=rpL (zlI (dsE a0 a1 a2 a6 i)) a5 (ag a6 i 0) 1
def dsS (a6:aa)(i:Int):aa:=delL a6 i (i+1)
theorem Kv {a0 a1 a2 a6:aa}{i:Int}:dsC a0 a1 a2 a6 i=kuC a0 a2 (ag a6 i 0)/\dsU a0 a1 a2 a6 i=kuU a1 a2 (ag a6 i 0)/\dsE a0 a1 a2 a6 i=kuE a2 (ag a6 i 0):=TK
theorem Da {fs:List Ty}{es:aa}{i j:Int}(h:Rw fs es)(ij:i<=j):Rw fs (delL es i j)/\(delL es i j).length<=es.length:=by
 have l:(delL es i j).length<=es.length:=by unfold delL;rw[List.length_append,List.length_take,List.length_drop];omega
 refine⟨⟨Nat.le_trans l h.1,fun e he=>?_⟩,l⟩;unfold delL at he;rcases List.mem_append.1 he with q|q
 ·exact h.2 e (List.mem_of_mem_take q)
 ·exact h.2 e (List.mem_of_mem_drop q)
end Go.V
namespace Go.V
theorem Gw {o:aa}{n:Int}{j:Nat}(h:Rw [tI,tI,tI] o)(n0:0<=n)(n1:n<o.length)(hj:j<3):∃ rec o',bN (L.s 3 o) [(n.toNat,j)]=some (rec,o')/\o'+[L.v (Value.int IntKind.i64 0)].length<=rec.length/\List.take [L.v (Value.int IntKind.i64 0)].length (List.drop o' rec)=jt aj (L.s 3 o) [(n.toNat,j)] 0 [L.v (Value.int IntKind.i64 0)]:=by
 rcases(show j=0\/j=1\/j=2 by omega)with rfl|rfl|rfl
 ·exact hE (z0:=[.i 0,.i 0,.i 0]) (z:=[.i 0]) h.wf (by omega) rfl (by decide)
 ·exact hE (z0:=[.i 0,.i 0,.i 0]) (z:=[.i 0]) h.wf (by omega) rfl (by decide)
 ·exact hE (z0:=[.i 0,.i 0,.i 0]) (z:=[.i 0]) h.wf (by omega) rfl (by decide)
section
variable {a0 a1 a2 : aa} {a3 : Int} {a4 a5 a6 a7 a8 a9 aA aB : aa} {aC : Int} {aD : aa} {aE aF aG aH : Int} {aI : Bool} {aJ aK : Int} {aL : aa} {aM aN : Int} {i : Int}
theorem Kw {t l:Int}(m:lT a0 a1 a2)(h0:Rw [.sl [tI]] a0)(h1:Rw [tB] a1)(h2:Rw [tI,tI] a2):lT (duC a0 a1 a2 t l) (duU a0 a1 a2 t l) (duE a0 a1 a2 t l)/\Rw [.sl [tI]] (duC a0 a1 a2 t l)/\Rw [tB] (duU a0 a1 a2 t l)/\Rw [tI,tI] (duE a0 a1 a2 t l)/\(duE a0 a1 a2 t l).length=a2.length/\ah (duC a0 a1 a2 t l)<=1024/\ah (duU a0 a1 a2 t l)<=64/\ah (duE a0 a1 a2 t l)<=64:=by
 have h:=Dd (t:=t) m h0 h1 h2 l.toNat;have e:∀ X:aa->aa->aa->Int->Int->aa,True:=fun _=>trivial
 have c:duC a0 a1 a2 t l=duC a0 a1 a2 t (l.toNat:Int):=by unfold duC;rw[Int.toNat_natCast]
 have u:duU a0 a1 a2 t l=duU a0 a1 a2 t (l.toNat:Int):=by unfold duU;rw[Int.toNat_natCast]
 have s:duE a0 a1 a2 t l=duE a0 a1 a2 t (l.toNat:Int):=by unfold duE;rw[Int.toNat_natCast]
 rw[c,u,s];exact⟨h.m,h.rc,h.ru,h.re,h.l,De h⟩
theorem Ku (hc:gg a0 a1 a2 a4 a5 a6 a7 a8 a9 aA aB aD aL)(c5:a5.length<=536870911)(m:lT a0 a1 a2):gg (dsC a0 a1 a2 a6 i) (dsU a0 a1 a2 a6 i) (dsE a0 a1 a2 a6 i) a4 (dsF a0 a1 a2 a5 a6 i) (dsS a6 i) a7 a8 a9 aA aB aD aL:=by
 have d:=Kw (t:=ag a6 i 0) (l:=1) m hc.r0 hc.r1 hc.r2;have l5:=ay (es:=a5);have q5:=hc.c5;have f:=Cv (n:=zlI (dsE a0 a1 a2 a6 i)) (a0:=ag a6 i 0) (l0:=1) hc.r5 (by omega);have g:=Eb (n:=zlI (dsE a0 a1 a2 a6 i)) (a0:=ag a6 i 0) (l0:=1) hc.r5 (by omega);have s:=Da (i:=i) (j:=i+1) hc.r6 (by omega);have c6:=hc.c6;have n6:=hc.r6.cnt rfl;have z6:=s.1.cnt rfl;refine⟨d.2.1,d.2.2.1,d.2.2.2.1,hc.r4,f.1,s.1,hc.r7,hc.r8,hc.r9,hc.r10,hc.r11,hc.r13,hc.r21,?_,?_,?_,hc.c4,?_,?_,hc.c7,hc.c8,hc.c9,hc.c10,hc.c11,hc.c13,hc.c21⟩
 ·exact Nat.le_trans d.2.2.2.2.2.1 (by decide)
 ·exact Nat.le_trans d.2.2.2.2.2.2.1 (by decide)
 ·exact Nat.le_trans d.2.2.2.2.2.2.2 (by decide)
 ·show ah (rpL _ _ _ _)<=_;omega
 ·show ah (delL _ _ _)<=_;rw[z6];have:=s.2;omega
theorem Pm (hc:gg a0 a1 a2 a4 a5 a6 a7 a8 a9 aA aB aD aL):gg a0 a1 a2 a4 a5 (delL a6 i (i+1)) a7 a8 a9 aA aB aD aL:=by
 have s:=Da (i:=i) (j:=i+1) hc.r6 (by omega);have c6:=hc.c6;have n6:=hc.r6.cnt rfl;have z6:=s.1.cnt rfl;exact⟨hc.r0,hc.r1,hc.r2,hc.r4,hc.r5,s.1,hc.r7,hc.r8,hc.r9,hc.r10,hc.r11,hc.r13,hc.r21,hc.c0,hc.c1,hc.c2,hc.c4,hc.c5,by rw[z6];have:=s.2;omega,hc.c7,hc.c8,hc.c9,hc.c10,hc.c11,hc.c13,hc.c21⟩
theorem Mr {a6:aa}{i:Int}(i0:0<=i)(i1:i<a6.length):[]++xj a6 (Int.toNat 0) (Mo i 0)++xj a6 (i+1).toNat (Mo (a6.length:Int) (i+1))=dsS a6 i:=by
 unfold dsS delL xj Mo;rw[List.nil_append];have e:List.take (((a6.length:Int).toNat- (i+1).toNat:Nat)) (List.drop (i+1).toNat a6)=List.drop (i+1).toNat a6:=List.take_of_length_le (by rw[List.length_drop];omega);rw[e];simp
theorem TJ :dsF a0 a1 a2 a5 a6 i=rpL (zlI (kuE a2 (ag a6 i 0))) a5 (ag a6 i 0) 1:=by unfold dsF;rw[Kv.2.2]
def gvB (k:Bool)(c:Int)(sp:aa)(m:Bool)(x y p:Int):Bool:=decide (0<=spI sp p)&&(k&&(decide (c≠100000)&&(decide (ag sp (spI sp p) 2=0)&& !bsB m x y p)))
section
variable {k m : Bool} {c x y p : Int} {sp : aa}
theorem TQ (h:spI sp p<0):gvB k c sp m x y p=false:=by unfold gvB;rw[decide_eq_false (by omega)];rfl
theorem TR (h:k=false):gvB k c sp m x y p=false:=by subst h;unfold gvB;simp
theorem Pz (h:c=100000):gvB k c sp m x y p=false:=by unfold gvB;rw[decide_eq_false (p:=c≠100000) (fun n=>n h)];simp
theorem TS (h:ag sp (spI sp p) 2≠0):gvB k c sp m x y p=false:=by unfold gvB;rw[decide_eq_false h];simp
theorem TT (h:bsB m x y p=true):gvB k c sp m x y p=false:=by unfold gvB;rw[h];simp
theorem TV (h1:0<=spI sp p)(h2:k=true)(h3:c≠100000)(h4:ag sp (spI sp p) 2=0)(h5:bsB m x y p=false):gvB k c sp m x y p=true:=by
 unfold gvB;rw[decide_eq_true h1,h2,decide_eq_true h3,decide_eq_true h4,h5];rfl
end
theorem FD {cs us es rs:aa}{c:Int}(h:kerOk cs us es c rs=true)(q:ccB cs us es c rs=false):c=100000:=by
 by_cases e:c=100000
 ·exact e
 ·rw[Km e,h]at q;cases q
theorem Rc (h:hpI a0 a1 a2 a3 a4 a5 a6 a7 a8 a9 aA aB aC aD aE aF aG aH aI aJ aK aL aM aN=true)(i0:0<=i)(i1:i<a6.length):0<=ag a6 i 0/\ag a6 i 0<=31:=by
 have s:=hZ ((Dw (mf h).l).1 i i0 i1);exact⟨s.1,s.2.1⟩
theorem FR (h:hpI a0 a1 a2 a3 a4 a5 a6 a7 a8 a9 aA aB aC aD aE aF aG aH aI aJ aK aL aM aN=true):a5.length<=32:=by
 have T:=vI (mf h).r;have n:=T.n1;have:∀ (l:List Pr) (t:Int),yA l->(∀ x∈l,t<=x.1/\1<=x.2/\x.1+x.2<=(a2.length:Int))->t+l.length<=(a2.length:Int)\/l=[]:=by
  intro l
  induction l with
  |nil=>intro t _ _;exact .inr rfl
  | cons x l ih=>
    intro t c b;have bx:=b x (by simp);refine .inl ?_;rcases ih (x.1+x.2) (pz c) (fun y hy=>by have:=py c y hy;have:=b y (by simp[hy]);omega)with q|q
    ·rw[List.length_cons];omega
    ·rw[q];simp only[List.length_cons,List.length_nil];omega
 have q:=this (iz a5) 0 T.c (fun x hx=>by have:=T.b x hx;omega);rw[iB]at q;rcases q with q|q
 ·omega
 ·have:=congrArg List.length q;rw[iB]at this;simp at this;rw[this];decide
end
end Go.V
namespace Go.V
theorem Fy {r0 r1 r2 r3 r4 r5 r6 r7 r8 r9 r10 r11 r12:aa}(h:gg r0 r1 r2 r3 r4 r5 r6 r7 r8 r9 r10 r11 r12):aw [r0,r1,r2,r3,r4,r5,r6,r7,r8,r9,r10,r11,r12]<=1099511627776:=by
 have c0:=h.c0;have c1:=h.c1;have c2:=h.c2;have c3:=h.c4;have c4:=h.c5;have c5:=h.c6;have c6:=h.c7;have c7:=h.c8;have c8:=h.c9;have c9:=h.c10;have c10:=h.c11;have c11:=h.c13;have c12:=h.c21;simp only[aw];omega
theorem TU {k m:Bool}{c x y p:Int}{sp:aa}(h:gvB k c sp m x y p=true):k=true:=by
 unfold gvB at h;simp only[Bool.and_eq_true]at h;exact h.2.1
section
variable {a0 a1 a2 : aa} {a3 : Int} {a4 a5 a6 a7 a8 a9 aA aB : aa} {aC : Int} {aD : aa} {aE aF aG aH : Int} {aI : Bool} {aJ aK : Int} {aL : aa} {aM aN : Int} {p : Int}
theorem Py (hc:gg a0 a1 a2 a4 a5 a6 a7 a8 a9 aA aB aD aL){b:Bool}(e:b=gvB (hpI a0 a1 a2 a3 a4 a5 a6 a7 a8 a9 aA aB aC aD aE aF aG aH aI aJ aK aL aM aN) a3 a6 aI aJ aK p):
 gg (ifR b (dsC a0 a1 a2 a6 (spI a6 p)) a0) (ifR b (dsU a0 a1 a2 a6 (spI a6 p)) a1) (ifR b (dsE a0 a1 a2 a6 (spI a6 p)) a2) a4 (ifR b (dsF a0 a1 a2 a5 a6 (spI a6 p)) a5) (ifR b (dsS a6 (spI a6 p)) a6) a7 a8 a9 aA aB aD aL:=by
 cases b with
 |false=>exact hc
 | true=>
   have k:=TU e.symm;have fl:=FR k;exact Ku hc (by omega) (mg (mf k).k).1
end
end Go.V
namespace Go.V
theorem FY {sp lg:aa}{a k:Int}(h:hlB sp lg a k=true):dnK sp lg a=1:=by
 unfold hlB at h;rw[Bool.and_eq_true,decide_eq_true_eq]at h;exact h.1
theorem Qo {sp lg:aa}(F:LY sp lg){k:Int}(k0:0<=k)(k1:k<lg.length):dnK sp lg (ag lg k 0*16)≠1:=fun e=>by
 obtain⟨_,q,l,t⟩:=Kt e;obtain⟨_,t2,t3⟩:=vM.1 t;have b:=(fM (F.l k.toNat (by omega)));have n:=gf b.1;rw[Int.toNat_of_nonneg k0]at b n;have s:=F.sl (gn sp (ag lg k 0*16)).toNat k.toNat (by omega) (by omega);rw[Int.toNat_of_nonneg q,Int.toNat_of_nonneg k0]at s;exact s (by omega) (by omega)
theorem Ni {sp lg os cs b x qs:aa}{c k:Int}(hl:layOk sp lg=true)(h:hoI sp lg os cs b x qs c=true)(k0:0<=k)(k1:k<lg.length):0<=obI os (ag lg k 0*16):=by
 have F:=Jc hl;have nd:=Qo F k0 k1;have bt:=fM (F.l k.toNat (by omega));have n:=gf bt.1;rw[Int.toNat_of_nonneg k0]at bt n;have pg:0<=ag lg k 0/\ag lg k 0<=31:=Hj hl (by
  unfold qL;refine List.mem_append_right _ (iq.2 ⟨k.toNat,by omega,?_⟩);rw[Int.toNat_of_nonneg k0];exact⟨Int.le_refl _,by omega⟩)
 have ma:ag lg k 0*16∈KP sp lg:=List.mem_append_right _ (od.2 ⟨k.toNat,by omega,by rw[Int.toNat_of_nonneg k0]⟩);have lv:=K0 F hl (yZ.1 ma);have mem:ag lg k 0*16∈Ii sp lg 512:=lG.2 ⟨by omega,by omega,lv⟩;obtain⟨i,hi,e⟩:=List.getElem_of_mem mem;have la:laL sp lg=eS (Ii sp lg 512):=by unfold laL;rw[if_pos hl,pG]
 unfold hoI at h;simp only[Bool.and_eq_true]at h;obtain⟨h1,h2,h3,h4⟩:=h;have q:=cn.1 h4 i (by omega) (by rw[la,bR];omega);unfold Iw at q;rw[la,mL hi,e,decide_eq_true_eq]at q;have m:ag lg k 0*16∈F1 os cs qs (ifL b x):=List.count_pos_iff.1 (by omega);unfold F1 at m;simp only[List.mem_append]at m;rcases m with((m|m)|m)|m
 ·obtain⟨k1',l1,m⟩:=sX.1 m;obtain⟨k2,l2,m⟩:=sY.1 m;obtain⟨k3,l3,m⟩:=fE.1 m;have r1:=cn.1 h1 k1' (by omega) (by omega);unfold iA at r1;have r2:=cn.1 r1 k2 (by omega) (by omega);unfold kA at r2;have r3:=cn.1 r2 k3 (by omega) (by omega);unfold jA at r3;rw[<-m]at r3;exact absurd (FY r3) nd
 ·obtain⟨k1',l1,m⟩:=fE.1 m;have r1:=cn.1 h2 k1' (by omega) (by omega);unfold Cq qA at r1;rw[Bool.and_eq_true, <-m]at r1;exact absurd (FY r1.1) nd
 ·obtain⟨k1',l1,m⟩:=fE.1 m;have r1:=cn.1 h3 k1' (by omega) (by omega);unfold jA at r1;rw[<-m]at r1;exact absurd (FY r1) nd
 ·obtain⟨k1',l1,m⟩:=fE.1 m;exact kK (i:=k1') l1 (nM m.symm)
end Go.V
namespace Go.V
def ltB (p n s z:Int):Bool:=lgOk p n s&&inR z 9 s
def ltN (p n s z:Int):Int:=if ltB p n s z=true then pfN z else n
def ltS (p n s z:Int):Int:=if ltB p n s z=true then z else s
def ltA (p n s z:Int):Int:=if ltB p n s z=true/\pfN z<n then p+pfN z else 0
def ltL (p n s z:Int):Int:=if ltB p n s z=true/\pfN z<n then n-pfN z else 0
structure Vk (p n s z:Int):Prop where
 g:lgOk p n s=true
 zi:inR z 9 1000=true
 z0:9<=z/\z<=1000/\z<=s
 p0:0<=p
 n1:p+n<=32
 m0:1<=pfN z/\pfN z<=n
 m1:z<=pfN z*16/\pfN z*16<z+16
theorem Ur {p n s z:Int}(h:ltB p n s z=true):Vk p n s z:=by
 unfold ltB at h;simp only[Bool.and_eq_true]at h;have g:=fM h.1;have i:=bE.1 h.2;have si:=bE.1 g.1;have zi:inR z 9 1000=true:=bE.2 (by omega);have b:=gf zi;have e:pfN z=(z+15)/16:=by unfold pfN;rw[if_pos zi]
 have e':pfN s=(s+15)/16:=by unfold pfN;rw[if_pos g.1]
 exact⟨h.1,zi,⟨by omega,by omega,by omega⟩,g.2.2.1,by omega,⟨b.1,by omega⟩,⟨b.2.2,by omega⟩⟩
theorem Qz {p n s z:Int}(h:ltB p n s z=false):ltN p n s z=n/\ltS p n s z=s/\ltA p n s z=0/\ltL p n s z=0:=by
 unfold ltN ltS ltA ltL;rw[h];simp
theorem Us {p n s z:Int}(h:lgOk p n s=false):ltB p n s z=false:=by unfold ltB;rw[h];rfl
theorem Ut {p n s z:Int}(h:inR z 9 s=false):ltB p n s z=false:=by unfold ltB;rw[h];simp
theorem Uu {p n s z:Int}(h:lgOk p n s=true)(k:inR z 9 s=true):ltB p n s z=true:=by unfold ltB;rw[h,k];rfl
theorem Qy {p n s z:Int}(h:ltB p n s z=true)(k:pfN z=n):ltN p n s z=n/\ltS p n s z=z/\ltA p n s z=0/\ltL p n s z=0:=by
 unfold ltN ltS ltA ltL;rw[if_pos h,if_pos h,if_neg (fun c=>by omega),if_neg (fun c=>by omega)];exact⟨k,rfl,rfl,rfl⟩
theorem QA {p n s z:Int}(h:ltB p n s z=true)(k:pfN z≠n):ltN p n s z=pfN z/\ltS p n s z=z/\ltA p n s z=p+pfN z/\ltL p n s z=n-pfN z:=by
 have T:=Ur h;have m:=T.m0;have c:ltB p n s z=true/\pfN z<n:=⟨h,by omega⟩;unfold ltN ltS ltA ltL;rw[if_pos h,if_pos h,if_pos c,if_pos c];exact⟨rfl,rfl,rfl,rfl⟩
theorem DC {p n s a l p' n' s' a' l':Int}{b b':Bool}(h1:p=p')(h2:n=n')(h3:s=s')(h4:a=a')(h5:l=l')(h6:b=b'):
 [DV.agg [.i p,.i n,.i s],DV.agg [.i a,.i l],DV.k b]=[DV.agg [.i p',.i n',.i s'],DV.agg [.i a',.i l'],DV.k b']:=by rw[h1,h2,h3,h4,h5,h6]
theorem GU {cs us es:aa}{p:Int}(m:lT cs us es)(h:peM es p≠0):0<=peF es p/\peF es p<cs.length:=by
 have q:=yW m (p:=p) (decide_eq_true h);have e:=Hf h;rw[e.2.2];exact q
def pmB (p ad:Int):Bool:=eqB (bF .mul .i64 p 16) ad
def wZ (lg:aa)(ad j:Int):Bool:=pmB (ag lg j 0) ad
def lhI (lg:aa)(ad:Int):Int:=cE (wZ lg ad) lg.length
def OR (cs:aa)(f k:Int):Nat->aa
 |0=>cs
 |i+1=>lc (OR cs f k i) f (k+i) 0
def tcC (cs es:aa)(a n:Int):aa:=OR cs (peF es (a/16)) (a%16) n.toNat
structure Ic (cs us es:aa)(f k i:Int)(c:aa):Prop where
 e:c=OR cs f k i.toNat
 m:lT c us es
 w:Rw [.sl [tI]] c
section
variable {cs us es c : aa} {f k i p : Int}
theorem HQ (m:lT cs us es)(w:Rw [.sl [tI]] cs):Ic cs us es f k 0 cs:=⟨rfl,m,w⟩
theorem CE (h:Ic cs us es f k i c)(i0:0<=i)(hp:peM es p≠0)(ef:peF es p=f)(k0:0<=k)(k1:k+i<16):Ic cs us es f k (i+1) (lc c f (k+i) 0):=by
 refine⟨?_,R4 h.m hp ef (by omega) k1 (by omega) (by omega),(have fr:=GU h.m hp;Ba h.w (by omega) (by omega) (by omega))⟩;rw[show(i+1).toNat=i.toNat+1 by omega,h.e];show _=lc (OR cs f k i.toNat) f (k+(i.toNat:Int)) 0;rw[show(k+(i.toNat:Int))=k+i by omega]
theorem JR (h:Ic cs us es f k i c){n:Int}(i1:i<=n)(i2:n<=i):c=OR cs f k n.toNat:=by rw[h.e,show i=n by omega]
theorem Eo (m:lT cs us es)(w:Rw [.sl [tI]] cs)(hp:peM es p≠0)(ef:peF es p=f)(k0:0<=k):∀ n:Nat,k+n<=16->Ic cs us es f k n (OR cs f k n)
 |0,_=>HQ m w
 | n+1,h=>by
   have q:=CE (Eo m w hp ef k0 n (by omega)) (by omega) hp ef k0 (by omega);have e:((n+1:Nat):Int)=(n:Int)+1:=by omega
   rw[e];exact q
end
end Go.V
namespace Go.V
def fi (a7:aa)(ad:Int):Int:=ag a7 (lhI a7 ad) 0
def pY (a7:aa)(ad:Int):Int:=ag a7 (lhI a7 ad) 1
def xk (a7:aa)(ad:Int):Int:=ag a7 (lhI a7 ad) 2
def tmB (a7:aa)(ad z:Int):Bool:=decide (0<=lhI a7 ad)&&ltB (fi a7 ad) (pY a7 ad) (xk a7 ad) z
def tmL (a7:aa)(ad z:Int):aa:=a7.set (lhI a7 ad).toNat [.i (fi a7 ad),.i (ltN (fi a7 ad) (pY a7 ad) (xk a7 ad) z),.i (ltS (fi a7 ad) (pY a7 ad) (xk a7 ad) z)]
def tmO (a8:aa)(ad z:Int):aa:=a8.set (obI a8 ad).toNat [.i (ag a8 (obI a8 ad) 0),.i (ag a8 (obI a8 ad) 1),.i z,.i (ag a8 (obI a8 ad) 3)]
def Bc (a0 a2 a7:aa)(ad z:Int):aa:=tcC a0 a2 (fi a7 ad*16+z) ((16- (fi a7 ad*16+z)%16)%16)
def qR (a7:aa)(ad z:Int):Int:=ltA (fi a7 ad) (pY a7 ad) (xk a7 ad) z
def qS (a7:aa)(ad z:Int):Int:=ltL (fi a7 ad) (pY a7 ad) (xk a7 ad) z
def tmC (a0 a1 a2 a7:aa)(ad z:Int):aa:=duC (Bc a0 a2 a7 ad z) a1 a2 (qR a7 ad z) (qS a7 ad z)
def tmU (a0 a1 a2 a7:aa)(ad z:Int):aa:=duU (Bc a0 a2 a7 ad z) a1 a2 (qR a7 ad z) (qS a7 ad z)
def tmE (a0 a1 a2 a7:aa)(ad z:Int):aa:=duE (Bc a0 a2 a7 ad z) a1 a2 (qR a7 ad z) (qS a7 ad z)
def tmF (a0 a1 a2 a5 a7:aa)(ad z:Int):aa:=rpL (zlI (tmE a0 a1 a2 a7 ad z)) a5 (qR a7 ad z) (qS a7 ad z)
theorem Ms {c u e:aa}{t:Int}:duC c u e t 0=c/\duU c u e t 0=u/\duE c u e t 0=e:=⟨rfl,rfl,rfl⟩
theorem RI {n a:Int}{rs:aa}:rpL n rs a 0=rs:=A3 (by
 unfold rpB rngIn;have:inR 0 1 n=false:=qB.2 (by omega);rw[this];simp)
theorem Vg {cs es:aa}{a:Int}:tcC cs es a 0=cs:=rfl
section
variable {a0 a1 a2 : aa} {a3 : Int} {a4 a5 a6 a7 a8 a9 aA aB : aa} {aC : Int} {aD : aa} {aE aF aG aH : Int} {aI : Bool} {aJ aK : Int} {aL : aa} {aM aN ad z k : Int}
structure L8 (a1 a2 a5 a7 a8 a0:aa)(ad z:Int):Prop where
 k0:0<=lhI a7 ad
 k1:lhI a7 ad<a7.length
 p:fi a7 ad*16=ad
 t:Vk (fi a7 ad) (pY a7 ad) (xk a7 ad) z
 b:ltB (fi a7 ad) (pY a7 ad) (xk a7 ad) z=true
 o0:0<=obI a8 ad
 o1:obI a8 ad<a8.length
 m:lT a0 a1 a2
 g:∀ q:Int,fi a7 ad<=q->q<fi a7 ad+pY a7 ad->peM a2 q≠0
 f:a5.length<=32
 d:lT (Bc a0 a2 a7 ad z) a1 a2
 dw:Rw [.sl [tI]] (Bc a0 a2 a7 ad z)
theorem Qq {lg:aa}(h:0<=lhI lg ad):lhI lg ad<lg.length/\bF .mul .i64 (ag lg (lhI lg ad) 0) 16=ad:=by
 have t:=dP h;change lhI lg ad<lg.length/\wZ lg ad (lhI lg ad)=true at t;exact⟨t.1,of_decide_eq_true t.2⟩
theorem zy (hc:gg a0 a1 a2 a4 a5 a6 a7 a8 a9 aA aB aD aL)(h:hpI a0 a1 a2 a3 a4 a5 a6 a7 a8 a9 aA aB aC aD aE aF aG aH aI aJ aK aL aM aN=true)(b:tmB a7 ad z=true):L8 a1 a2 a5 a7 a8 a0 ad z:=by
 unfold tmB at b;rw[Bool.and_eq_true,decide_eq_true_eq]at b;obtain⟨k0,lb⟩:=b;have kk:=Qq k0;have H:=mf h;have T:=Ur lb;have F:=Jc H.l;have km:=(mg H.k).1;have p0:=T.p0;have n1:=T.n1;have m0:=T.m0;have m1:=T.m1;have pe:fi a7 ad*16=ad:=by
  have e:bF .mul .i64 (fi a7 ad) 16=fi a7 ad*16:=y9 (by omega);have:=kk.2;change bF .mul .i64 (fi a7 ad) 16=ad at this;omega
 have ob:=Ni H.l H.h k0 kk.1;change 0<=obI a8 (fi a7 ad*16)at ob;rw[pe]at ob;have o1:=(dP ob).1;have PT:=VI H.p;have g:∀ q:Int,fi a7 ad<=q->q<fi a7 ad+pY a7 ad->peM a2 q≠0:=fun q q0 q1=>by
  have tn:((ag a7 (lhI a7 ad) 1).toNat:Int)=pY a7 ad:=by
   show((pY a7 ad).toNat:Int)=pY a7 ad;omega
  have mem:q∈qL a6 a7:=List.mem_append_right _ (iq.2 ⟨(lhI a7 ad).toNat,by omega,by
   rw[Int.toNat_of_nonneg k0,tn];exact⟨q0,q1⟩⟩)
  exact(PT.m q (by omega) (PT.o q mem)).2 mem
 have d:lT (Bc a0 a2 a7 ad z) a1 a2/\Rw [.sl [tI]] (Bc a0 a2 a7 ad z):=by
  unfold Bc tcC;by_cases c:(fi a7 ad*16+z)%16=0
  ·rw[c];exact⟨km,hc.r0⟩
  ·have q:=Eo (cs:=a0) (us:=a1) (es:=a2) (f:=peF a2 ((fi a7 ad*16+z)/16)) (k:=(fi a7 ad*16+z)%16) (p:=(fi a7 ad*16+z)/16) km hc.r0 (g _ (by omega) (by omega)) rfl (by omega) ((16- (fi a7 ad*16+z)%16)%16).toNat (by omega);exact⟨q.m,q.w⟩
 exact⟨k0,kk.1,pe,T,lb,ob,o1,km,g,FR h,d.1,d.2⟩
theorem UT {es:aa}{x y w:Int}{n:Nat}(h:Rw [tI,tI,tI] es)(hx: -9223372036854775808<=x/\x<=9223372036854775807)(hy: -9223372036854775808<=y/\y<=9223372036854775807)(hw: -9223372036854775808<=w/\w<=9223372036854775807):Rw [tI,tI,tI] (es.set n [.i x,.i y,.i w]):=Rw.set h (show b9 [tI,tI,tI] [.i x,.i y,.i w]from⟨⟨rfl,hx⟩,⟨rfl,hy⟩,⟨rfl,hw⟩,trivial⟩) _
theorem HU (hc:gg a0 a1 a2 a4 a5 a6 a7 a8 a9 aA aB aD aL)(T:L8 a1 a2 a5 a7 a8 a0 ad z):gg (tmC a0 a1 a2 a7 ad z) (tmU a0 a1 a2 a7 ad z) (tmE a0 a1 a2 a7 ad z) a4 (tmF a0 a1 a2 a5 a7 ad z) a6 (tmL a7 ad z) (tmO a8 ad z) a9 aA aB aD aL:=by
 have d:=Kw (t:=qR a7 ad z) (l:=qS a7 ad z) T.d T.dw hc.r1 hc.r2;have f5:=T.f;have f:=Cv (n:=zlI (tmE a0 a1 a2 a7 ad z)) (a0:=qR a7 ad z) (l0:=qS a7 ad z) hc.r5 (by omega);have g:=Eb (n:=zlI (tmE a0 a1 a2 a7 ad z)) (a0:=qR a7 ad z) (l0:=qS a7 ad z) hc.r5 (by omega);have p0:=T.t.p0;have n1:=T.t.n1;have m0:=T.t.m0;have z0:=T.t.z0;have k0:=T.k0;have k1:=T.k1;have o0:=T.o0;have o1:=T.o1;have en: -9223372036854775808<=ltN (fi a7 ad) (pY a7 ad) (xk a7 ad) z/\ltN (fi a7 ad) (pY a7 ad) (xk a7 ad) z<=9223372036854775807:=by unfold ltN;rw[if_pos T.b];omega
 have es: -9223372036854775808<=ltS (fi a7 ad) (pY a7 ad) (xk a7 ad) z/\ltS (fi a7 ad) (pY a7 ad) (xk a7 ad) z<=9223372036854775807:=by unfold ltS;rw[if_pos T.b];omega
 have l:Rw [tI,tI,tI] (tmL a7 ad z):=UT hc.r7 (by omega) en es;have o:Rw [tI,tI,tI,tI] (tmO a8 ad z):=Rw.set hc.r8 (show b9 [tI,tI,tI,tI] [.i (ag a8 (obI a8 ad) 0),.i (ag a8 (obI a8 ad) 1),.i z,.i (ag a8 (obI a8 ad) 3)]from⟨⟨rfl,nW hc.r8 rfl (by omega)⟩,⟨rfl,nW hc.r8 rfl (by omega)⟩,⟨rfl,(show _/\_ from⟨by omega,by omega⟩: -9223372036854775808<=z/\z<=9223372036854775807)⟩,⟨rfl,nW hc.r8 rfl (by omega)⟩,trivial⟩) _;have c7:=hc.c7;have c8:=hc.c8;refine⟨d.2.1,d.2.2.1,d.2.2.2.1,hc.r4,f.1,hc.r6,l,o,hc.r9,hc.r10,hc.r11,hc.r13,hc.r21,?_,?_,?_,hc.c4,?_,hc.c6,?_,?_,hc.c9,hc.c10,hc.c11,hc.c13,hc.c21⟩
 ·exact Nat.le_trans d.2.2.2.2.2.1 (by decide)
 ·exact Nat.le_trans d.2.2.2.2.2.2.1 (by decide)
 ·exact Nat.le_trans d.2.2.2.2.2.2.2 (by decide)
 ·show ah (rpL _ _ _ _)<=_;omega
 ·rw[l.cnt rfl];unfold tmL;rw[List.length_set, <-hc.r7.cnt rfl];exact c7
 ·rw[o.cnt rfl];unfold tmO;rw[List.length_set, <-hc.r8.cnt rfl];exact c8
def tvB (k:Bool)(c:Int)(a7:aa)(ad z:Int):Bool:=k&&(decide (c≠100000)&&tmB a7 ad z)
theorem Sd {k:Bool}{c:Int}(h:k=false):tvB k c a7 ad z=false:=by subst h;rfl
theorem Se {k:Bool}{c:Int}(h:c=100000):tvB k c a7 ad z=false:=by unfold tvB;rw[decide_eq_false (fun n=>n h)];simp
theorem Oh {k:Bool}{c:Int}(h:tmB a7 ad z=false):tvB k c a7 ad z=false:=by unfold tvB;rw[h];simp
theorem HV {k:Bool}{c:Int}(h1:k=true)(h2:c≠100000)(h3:tmB a7 ad z=true):tvB k c a7 ad z=true:=by unfold tvB;rw[h1,decide_eq_true h2,h3];rfl
theorem Of (h:lhI a7 ad<0):tmB a7 ad z=false:=by unfold tmB;rw[decide_eq_false (by omega)];rfl
theorem Og (h:ltB (fi a7 ad) (pY a7 ad) (xk a7 ad) z=false):tmB a7 ad z=false:=by unfold tmB;rw[h];simp
theorem Sc (h:0<=lhI a7 ad)(h2:ltB (fi a7 ad) (pY a7 ad) (xk a7 ad) z=true):tmB a7 ad z=true:=by unfold tmB;rw[decide_eq_true h,h2];rfl
end
end Go.V
namespace Go.V
theorem KX {o:aa}{n:Int}(h:Rw [tI,tI,tI] o)(n0:0<=n)(n1:n<o.length):∃ rec o',bN (L.s 3 o) [(n.toNat,0)]=some (rec,o')/\o'+[L.v (Value.int IntKind.i64 0),L.v (Value.int IntKind.i64 0),L.v (Value.int IntKind.i64 0)].length<=rec.length/\List.take [L.v (Value.int IntKind.i64 0),L.v (Value.int IntKind.i64 0),L.v (Value.int IntKind.i64 0)].length (List.drop o' rec)=jt aj (L.s 3 o) [(n.toNat,0)] 0 [L.v (Value.int IntKind.i64 0),L.v (Value.int IntKind.i64 0),L.v (Value.int IntKind.i64 0)]:=
 hE (z0:=[.i 0,.i 0,.i 0]) (z:=[.i 0,.i 0,.i 0]) h.wf (by omega) rfl (by decide)
theorem LC {o:aa}{n:Int}(h:Rw [tI,tI,tI] o)(n0:0<=n)(n1:n<o.length):∃ rec o',bN (.s 3 o) [(n.toNat,0)]=some (rec,o')/\o'+3<=rec.length:=eK (by omega) (by rw[h.eta n0 n1];exact Nat.le_refl _)
theorem qU {o:aa}{n x y w:Int}(h:Rw [tI,tI,tI] o)(n0:0<=n)(n1:n<o.length):zA (.s 3 o) [(n.toNat,0)] [.i x,.i y,.i w]=o.set n.toNat [.i x,.i y,.i w]:=lO (by rw[h.eta n0 n1];rfl)
theorem LB {o:aa}{n:Int}(h:Rw [tI,tI,tI,tI] o)(n0:0<=n)(n1:n<o.length):∃ rec o',bN (.s 4 o) [(n.toNat,2)]=some (rec,o')/\o'+1<=rec.length:=eK (by omega) (by rw[h.eta n0 n1];show 2+1<=4;omega)
theorem qT {o:aa}{n x:Int}(h:Rw [tI,tI,tI,tI] o)(n0:0<=n)(n1:n<o.length):zA (.s 4 o) [(n.toNat,2)] [.i x]=o.set n.toNat [.i (ag o n 0),.i (ag o n 1),.i x,.i (ag o n 3)]:=by
 show o.set n.toNat ((o.getD n.toNat []).take 2++[.i x]++(o.getD n.toNat []).drop (2+1))=_;rw[h.eta n0 n1];rfl
section
variable {a0 a1 a2 a5 a7 a8 c : aa} {ad z x : Int}
theorem LH (T:L8 a1 a2 a5 a7 a8 a0 ad z):0<=qR a7 ad z/\0<=qS a7 ad z/\qR a7 ad z+qS a7 ad z<=32:=by
 have p0:=T.t.p0;have n1:=T.t.n1;have m0:=T.t.m0;unfold qR qS;by_cases e:pfN z=pY a7 ad
 ·have q:=Qy T.b e;rw[q.2.2.1,q.2.2.2];omega
 ·have q:=QA T.b e;rw[q.2.2.1,q.2.2.2];omega
theorem HT (T:L8 a1 a2 a5 a7 a8 a0 ad z)(h:Ic a0 a1 a2 (peF a2 ((ad+z)/16)) ((ad+z)%16) (x- (ad+z)) c)(x1:x<=ad+pfN z*16)(x2:ad+pfN z*16<=x):c=Bc a0 a2 a7 ad z:=by
 have m1:=T.t.m1;have p:=T.p;unfold Bc tcC;rw[p,h.e]
 congr 1
 omega
theorem CF (T:L8 a1 a2 a5 a7 a8 a0 ad z):ltN (fi a7 ad) (pY a7 ad) (xk a7 ad) z=pfN z:=by unfold ltN;rw[if_pos T.b]
theorem li (T:L8 a1 a2 a5 a7 a8 a0 ad z):tmL a7 ad z=a7.set (lhI a7 ad).toNat [.i (fi a7 ad),.i (pfN z),.i (ltS (fi a7 ad) (pY a7 ad) (xk a7 ad) z)]:=by unfold tmL;rw[CF T]
theorem LF (h:qS a7 ad z=0):tmF a0 a1 a2 a5 a7 ad z=a5:=by unfold tmF;rw[h];exact RI
theorem HS (h:(fi a7 ad*16+z)%16≠0):Bc a0 a2 a7 ad z=tcC a0 a2 (fi a7 ad*16+z) (16- (fi a7 ad*16+z)%16):=by unfold Bc;rw[show(16- (fi a7 ad*16+z)%16)%16=16- (fi a7 ad*16+z)%16 by omega]
theorem HR (h:(fi a7 ad*16+z)%16=0):Bc a0 a2 a7 ad z=a0:=by unfold Bc;rw[h];exact Vg
theorem R9 (h:(fi a7 ad*16+z)%16=0):tmC a0 a1 a2 a7 ad z=duC a0 a1 a2 (qR a7 ad z) (qS a7 ad z)/\tmU a0 a1 a2 a7 ad z=duU a0 a1 a2 (qR a7 ad z) (qS a7 ad z)/\tmE a0 a1 a2 a7 ad z=duE a0 a1 a2 (qR a7 ad z) (qS a7 ad z)/\tmF a0 a1 a2 a5 a7 ad z=rpL (zlI (duE a0 a1 a2 (qR a7 ad z) (qS a7 ad z))) a5 (qR a7 ad z) (qS a7 ad z):=by
 unfold tmF tmC tmU tmE;rw[HR h];exact⟨rfl,rfl,rfl,rfl⟩
theorem LG (h:qS a7 ad z=0):tmC a0 a1 a2 a7 ad z=Bc a0 a2 a7 ad z/\tmU a0 a1 a2 a7 ad z=a1/\tmE a0 a1 a2 a7 ad z=a2/\tmF a0 a1 a2 a5 a7 ad z=a5:=by
 refine⟨?_,?_,?_,LF h⟩
 ·unfold tmC;rw[h];exact Ms.1
 ·unfold tmU;rw[h];exact Ms.2.1
 ·unfold tmE;rw[h];exact Ms.2.2
theorem LI {a3:Int}{a4 a6 a9 aA aB aD aL:aa}(hc:gg a0 a1 a2 a4 a5 a6 a7 a8 a9 aA aB aD aL)(T:L8 a1 a2 a5 a7 a8 a0 ad z)(k:kerOk a0 a1 a2 a3 a4=true):gg (Bc a0 a2 a7 ad z) a1 a2 a4 a5 a6 (tmL a7 ad z) (tmO a8 ad z) a9 aA aB aD aL/\kerOk (Bc a0 a2 a7 ad z) a1 a2 a3 a4=true:=by
 have t:=HU hc T;have c:=DI T.d T.dw hc.r1 hc.r2;have q:=(mg k).2;exact⟨⟨T.dw,hc.r1,hc.r2,hc.r4,hc.r5,hc.r6,t.r7,t.r8,hc.r9,hc.r10,hc.r11,hc.r13,hc.r21,Nat.le_trans c.1 (by decide),hc.c1,hc.c2,hc.c4,hc.c5,hc.c6,t.c7,t.c8,hc.c9,hc.c10,hc.c11,hc.c13,hc.c21⟩,Gs T.d q.1 q.2.1 q.2.2⟩
end
end Go.V
namespace Go.V
section
variable {a0 a1 a2 : aa} {a3 : Int} {a4 a5 a6 a7 a8 a9 aA aB : aa} {aC : Int} {aD : aa} {aE aF aG aH : Int} {aI : Bool} {aJ aK : Int} {aL : aa} {aM aN ad z : Int}
theorem Sf (hc:gg a0 a1 a2 a4 a5 a6 a7 a8 a9 aA aB aD aL){b:Bool}(e:b=tvB (hpI a0 a1 a2 a3 a4 a5 a6 a7 a8 a9 aA aB aC aD aE aF aG aH aI aJ aK aL aM aN) a3 a7 ad z):
 gg (ifR b (tmC a0 a1 a2 a7 ad z) a0) (ifR b (tmU a0 a1 a2 a7 ad z) a1) (ifR b (tmE a0 a1 a2 a7 ad z) a2) a4 (ifR b (tmF a0 a1 a2 a5 a7 ad z) a5) a6 (ifR b (tmL a7 ad z) a7) (ifR b (tmO a8 ad z) a8) a9 aA aB aD aL:=by
 cases b with
 |false=>exact hc
 | true=>
   unfold tvB at e;have e':=e.symm;simp only[Bool.and_eq_true]at e';exact HU hc (zy hc e'.1 e'.2.2)
end
end Go.V