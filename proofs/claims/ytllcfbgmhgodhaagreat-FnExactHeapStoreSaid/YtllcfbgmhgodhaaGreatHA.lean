/- Plain facts. -/
import Derived.Test.YtllcfbgmhgodhaaGreatVE
set_option linter.all false
namespace Go.V
theorem dQ {n:Int}(h:IntKind.has .i64 n): -9223372036854775808<=n/\n<=9223372036854775807:=h
theorem cv {i:Int}(h0:0<=i)(h1:i<9223372036854775807):bF .add .i64 i 1=i+1:=bc (by omega)
def inR (x a b:Int):Bool:=decide (a<=x)&&decide (x<=b)
theorem bE {x a b:Int}:inR x a b=true↔a<=x/\x<=b:=by simp[inR]
theorem qB {x a b:Int}:inR x a b=false↔x<a\/b<x:=by
 cases h:inR x a b
 ·simp only[true_iff];unfold inR at h;simp only[Bool.and_eq_false_iff,decide_eq_false_iff_not]at h;omega
 ·rw[bE]at h;constructor
  ·intro q;cases q
  ·omega
def ce (p:Int->Bool)(n:Nat):Bool:=(List.range n).all fun j=>p (j:Int)
def upto (p:Int->Bool)(i:Int):Prop:=∀ j:Int,0<=j->j<i->p j=true
theorem bi {p:Int->Bool}:upto p 0:=fun j h0 h1=>absurd h1 (by omega)
theorem aV {p:Int->Bool}{i:Int}(h:upto p i)(hp:p i=true):upto p (i+1):=fun j h0 h1=>by
 by_cases q:j=i
 ·subst q;exact hp
 ·exact h j h0 (by omega)
theorem cn {p:Int->Bool}{n:Nat}:ce p n=true↔upto p n:=by
 simp only[ce,List.all_eq_true,List.mem_range];exact⟨fun h j h0 h1=>by have:=h j.toNat (by omega);rwa [Int.toNat_of_nonneg h0]at this,fun h x hx=>h x (by omega) (by omega)⟩
theorem bB {p:Int->Bool}{n:Nat}{i:Int}(h:upto p i)(hi:(n:Int)<=i):ce p n=true:=cn.2 fun j h0 h1=>h j h0 (by omega)
theorem bM {p:Int->Bool}{n:Nat}{i:Int}(h0:0<=i)(h:i<n)(hp:p i=false):ce p n=false:=by
 cases q:ce p n
 ·rfl
 ·rw[cn.1 q i h0 h]at hp;cases hp
theorem ew {a b:Bool}(h:a=true↔b=true):a=b:=by cases a<;>cases b<;>simp_all
theorem ak {a b:Bool}(h:a=b):[DV.k a]=[DV.k b]:=by rw[h]
def iL (cs us:aa)(i k:Int):Bool:=inR (ag (aR cs i 0) k 0) 0 999&&(nT us i 0||decide (ag (aR cs i 0) k 0=0))
def eG (cs us:aa)(i:Int):Bool:=decide ((aR cs i 0).length=16)&&ce (iL cs us i) 16
def framesOk (cs us:aa):Bool:=inR cs.length 1 32&&decide (us.length=cs.length)&&ce (eG cs us) cs.length
def kG (es:aa)(fr i:Int):Bool:=inR (ag es i 0) 0 2&&decide (ag es i 0=0->ag es i 1=0)&&decide (0<ag es i 0->0<=ag es i 1/\ag es i 1<fr)
def tableOk (es:aa)(fr:Int):Bool:=ce (kG es fr) es.length&&inR es.length 1 32
def sC (es:aa)(f:Int):Nat->aa
 |0=>[]
 |n+1=>if ag es n 0≠0/\ag es n 1=f then sC es f n++[[.i n]]else sC es f n
def pagesOn (es:aa)(f:Int):aa:=sC es f es.length
theorem zg {es:aa}{f:Int}:∀ {n:Nat},(sC es f n).length<=n
 |0=>Nat.zero_le _
 | n+1=>by
   have:=zg (es:=es) (f:=f) (n:=n);unfold sC;split
   ·rw[List.length_append];simp;omega
   ·omega
theorem DY {es:aa}{f:Int}{n:Nat}(h0:ag es n 0≠0)(h1:ag es n 1=f):sC es f (n+1)=sC es f n++[[.i n]]:=by rw[sC,if_pos ⟨h0,h1⟩]
theorem Hi {es:aa}{f:Int}{n:Nat}(h:ag es n 0=0\/ag es n 1≠f):sC es f (n+1)=sC es f n:=by rw[sC,if_neg (by rintro⟨a,b⟩;rcases h with q|q;exact a q;exact q b)]
theorem Jp {es:aa}{f i:Int}(hi:0<=i)(h0:ag es i 0≠0)(h1:ag es i 1=f):sC es f (i+1).toNat=sC es f i.toNat++[[.i i]]:=by
 have e:((i.toNat:Nat):Int)=i:=Int.toNat_of_nonneg hi;rw[show(i+1).toNat=i.toNat+1 from by omega,DY (by rw[e];exact h0) (by rw[e];exact h1),e]
theorem Hh {es:aa}{f i:Int}(hi:0<=i)(h:ag es i 0=0\/ag es i 1≠f):sC es f (i+1).toNat=sC es f i.toNat:=by
 have e:((i.toNat:Nat):Int)=i:=Int.toNat_of_nonneg hi;rw[show(i+1).toNat=i.toNat+1 from by omega,Hi (by rw[e];exact h)]
theorem xZ {es:aa}{f:Int}:(pagesOn es f).length<=es.length:=zg
def ez (es:aa)(f:Int):Bool:=decide (0<(pagesOn es f).length)
theorem yX {es:aa}{f:Int}:ez es f=true↔0<(pagesOn es f).length:=by simp[ez]
theorem Mz {cs us:aa}(h:inR cs.length 1 32=false):framesOk cs us=false:=by unfold framesOk;rw[h];rfl
theorem MA {cs us:aa}(h:us.length≠cs.length):framesOk cs us=false:=by unfold framesOk;rw[decide_eq_false h];simp
theorem MB {cs us:aa}{i:Int}(h0:0<=i)(h1:i<cs.length)(h:(aR cs i 0).length≠16):framesOk cs us=false:=by
 unfold framesOk;rw[bM h0 h1 (by unfold eG;rw[decide_eq_false h];rfl)];simp
theorem FU {cs us:aa}{i k:Int}(h0:0<=i)(h1:i<cs.length)(k0:0<=k)(k1:k<16)(h:inR (ag (aR cs i 0) k 0) 0 999=false\/nT us i 0=false/\ag (aR cs i 0) k 0≠0):framesOk cs us=false:=by
 unfold framesOk;rw[bM h0 h1 (by unfold eG;rw[bM k0 (by simpa using k1) (by unfold iL;rcases h with q|⟨q,q'⟩;rw[q];rfl;rw[q,decide_eq_false q'];simp)];simp)];simp
theorem FV {cs us:aa}{i:Int}(h1:inR cs.length 1 32=true)(h2:us.length=cs.length)(h:upto (eG cs us) i)(hi:(cs.length:Int)<=i):framesOk cs us=true:=by
 unfold framesOk;rw[h1,decide_eq_true h2,bB h hi];rfl
theorem KG {cs us:aa}{i k:Int}(hl:(aR cs i 0).length=16)(h:upto (iL cs us i) k)(hk:16<=k):eG cs us i=true:=by
 unfold eG;rw[decide_eq_true hl,bB h (by simpa using hk)];rfl
theorem Kn {cs us:aa}{i k:Int}(h:inR (ag (aR cs i 0) k 0) 0 999=true)(h':nT us i 0=true\/ag (aR cs i 0) k 0=0):iL cs us i k=true:=by
 unfold iL;rw[h];rcases h' with q|q
 ·rw[q];rfl
 ·rw[decide_eq_true q];simp
theorem Cu {k:Nat}{a b:aa}(h:a=b):[DV.one (.s k a)]=[DV.one (.s k b)]:=by rw[h]
theorem R8 {es:aa}{n i:Int}(h0:0<=i)(h1:i<es.length)(h:¬ (0<=ag es i 0/\ag es i 0<=2/\(ag es i 0=0->ag es i 1=0)/\(0<ag es i 0->0<=ag es i 1/\ag es i 1<n))):tableOk es n=false:=by
 unfold tableOk;rw[bM h0 h1];rfl;cases q:kG es n i
 ·rfl
 ·refine absurd ?_ h;unfold kG at q;simp only[Bool.and_eq_true,decide_eq_true_eq,bE]at q;exact⟨q.1.1.1,q.1.1.2,q.1.2,q.2⟩
theorem LE {es:aa}{n i:Int}(h:0<=ag es i 0/\ag es i 0<=2/\(ag es i 0=0->ag es i 1=0)/\(0<ag es i 0->0<=ag es i 1/\ag es i 1<n)):kG es n i=true:=by
 unfold kG;simp only[Bool.and_eq_true,decide_eq_true_eq,bE];exact⟨⟨⟨h.1,h.2.1⟩,h.2.2.1⟩,h.2.2.2⟩
theorem HP {es:aa}{n i:Int}(h:upto (kG es n) i)(hi:(es.length:Int)<=i):tableOk es n=inR es.length 1 32:=by unfold tableOk;rw[bB h hi];rfl
theorem vU {es:aa}{n:Int}(h:tableOk es n=true):1<=es.length/\es.length<=32:=by
 unfold tableOk at h;simp only[Bool.and_eq_true,bE]at h;omega
theorem LD {es:aa}{n i:Int}(h:tableOk es n=true)(h0:0<=i)(h1:i<es.length):0<=ag es i 0/\ag es i 0<=2/\(ag es i 0=0->ag es i 1=0)/\(0<ag es i 0->0<=ag es i 1/\ag es i 1<n):=by
 unfold tableOk at h;simp only[Bool.and_eq_true]at h;have q:=cn.1 h.1 i h0 h1;unfold kG at q;simp only[Bool.and_eq_true,decide_eq_true_eq,bE]at q;exact⟨q.1.1.1,q.1.1.2,q.1.2,q.2⟩
theorem uX {cs us:aa}(h:framesOk cs us=true):us.length=cs.length/\1<=cs.length/\cs.length<=32:=by
 unfold framesOk at h;simp only[Bool.and_eq_true,decide_eq_true_eq,bE]at h;omega
theorem KF {cs us:aa}{i:Int}(h:framesOk cs us=true)(h0:0<=i)(h1:i<cs.length):(aR cs i 0).length=16:=by
 unfold framesOk at h;simp only[Bool.and_eq_true,decide_eq_true_eq,bE]at h;have q:=cn.1 h.2 i h0 h1;unfold eG at q;simp only[Bool.and_eq_true,decide_eq_true_eq]at q;exact q.1
end Go.V
namespace Go.V
theorem oz {a n:Int}(h0:0<=a)(h1:a<=9223372036854775807)(hn:0<n):bF .quo .i64 a n=a/n:=by
 show IntKind.wrap .i64 (a.tdiv n)=_;rw[Int.tdiv_eq_ediv_of_nonneg h0];have h2:0<=a/n:=Int.ediv_nonneg h0 (by omega);have h3:a/n<=a:=Int.ediv_le_self _ h0;exact IntWalk.i64_in _ (by omega)
theorem qN {a n:Int}(h0:0<=a):bF .rem .i64 a n=a%n:=Int.tmod_eq_emod_of_nonneg h0
theorem Dy {a:aa}{f:Int}:cD .gtr (pagesOn a f).length 0=ez a f:=ew (by rw[yX];simp only[SS];omega)
theorem Je {a:aa}{f:Int}(h:(pagesOn a f).length=0):ez a f=false:=by unfold ez;rw[h];rfl
theorem Ai {a b a' b':Int}(h:a=a')(h':b=b'):[DV.agg [.i a,.i b]]=[DV.agg [.i a',.i b']]:=by rw[h,h']
theorem uT {a b a' b':Int}(h:a=a')(h':b=b'):[DV.j a,DV.j b]=[DV.j a',DV.j b']:=by rw[h,h']
theorem cp {a b:Int}(h:a=b):[DV.j a]=[DV.j b]:=by rw[h]
def peM (es:aa)(p:Int):Int:=if 0<=p/\p<es.length then ag es p 0 else 0
def peF (es:aa)(p:Int):Int:=if 0<=p/\p<es.length then ag es p 1 else 0
theorem ze {es:aa}{p:Int}(h:0<=p/\p<es.length):peM es p=ag es p 0/\peF es p=ag es p 1:=by unfold peM peF;rw[if_pos h,if_pos h];exact⟨rfl,rfl⟩
theorem AV {es:aa}{p:Int}(h:¬ (0<=p/\p<es.length)):peM es p=0/\peF es p=0:=by unfold peM peF;rw[if_neg h,if_neg h];exact⟨rfl,rfl⟩
theorem Ra {es:aa}{n p:Int}(h:tableOk es n=true)(hm:peM es p≠0):0<=peF es p/\peF es p<n/\1<=peM es p/\peM es p<=2:=by
 by_cases q:0<=p/\p<es.length
 ·rw[(ze q).1]at hm ⊢;rw[(ze q).2];have:=LD h q.1 q.2;omega
 ·exact absurd (AV q).1 hm
def OL (es:aa)(a:Int):Int:=if a<0 then 0 else peM es (a/16)
def OK (es:aa)(a:Int):Int:=if a<0 then 0 else peF es (a/16)
def Tt (a:Int):Int:=if a<0 then 0 else a%16
theorem Gx {es:aa}{a:Int}(h:a<0):OL es a=0/\OK es a=0/\Tt a=0:=by unfold OL OK Tt;rw[if_pos h,if_pos h,if_pos h];exact⟨rfl,rfl,rfl⟩
theorem vj {es:aa}{a:Int}(h:¬ a<0):OL es a=peM es (a/16)/\OK es a=peF es (a/16)/\Tt a=a%16:=by unfold OL OK Tt;rw[if_neg h,if_neg h,if_neg h];exact⟨rfl,rfl,rfl⟩
end Go.V
namespace Go.V
theorem fb {fs:List Ty}{es:aa}{i:Int}(h:Rw [.sl fs] es)(h0:0<=i)(h1:i<es.length):es.take (i+1).toNat=es.take i.toNat++[[.s fs.length (aR es i 0)]]:=by
 rw[show(i+1).toNat=i.toNat+1 from by omega,dF (d:=[]) (show i.toNat<es.length by omega)];have e:=h.eta h0 h1;rw[e];rfl
theorem jP {fs:List Ty}{es:aa}{i:Int}(h:Rw [.sl fs] es)(h0:0<=i)(h1:i<es.length):ah (aR es i 0)+es.length<=ah es:=by
 have e:=h.eta h0 h1;have h2:=cB (es:=es) (n:=i.toNat) (by omega);have h3:=bH (es:=es) (n:=i.toNat+1);rw[e]at h2;have h4:cI (hY aj es i 0 (zR [Ty.sl fs]))=ah (aR es i 0):=by
  show cI [.s fs.length (aR es i 0)]=_;simp only[cI,eC,ah];omega
 rw[h4]at h2;show _<=es.length+bD es;omega
theorem ay {es:aa}:es.length<=ah es:=Nat.le_add_right _ _
theorem fa {es:aa}{i:Int}(h:(es.length:Int)<=i):es.take i.toNat=es:=List.take_of_length_le (by omega)
def iO (us es:aa)(i:Int):Bool:=nT us i 0==ez es i
def machOk (cs us es:aa):Bool:=framesOk cs us&&tableOk es cs.length&&ce (iO us es) cs.length
theorem DG {cs us es:aa}(h:framesOk cs us=false\/tableOk es cs.length=false):machOk cs us es=false:=by
 unfold machOk;rcases h with h|h<;>rw[h]<;>simp
theorem Nu {cs us es:aa}(hf:framesOk cs us=true)(h:tableOk es us.length=false):machOk cs us es=false:=by
 rw[(uX hf).1]at h;exact DG (.inr h)
theorem GN {cs us es:aa}{i:Int}(h0:0<=i)(h1:i<cs.length)(h:nT us i 0≠ez es i):machOk cs us es=false:=by
 unfold machOk;rw[bM h0 h1 (by unfold iO;simpa using h)];simp
theorem GM {us es:aa}{i:Int}(h:nT us i 0=ez es i):iO us es i=true:=by unfold iO;simpa using h
theorem Cb {cs us es:aa}{i:Int}(h:framesOk cs us=true)(h2:tableOk es us.length=true)(hu:upto (iO us es) i)(hi:(us.length:Int)<=i):machOk cs us es=true:=by
 rw[(uX h).1]at h2 hi;unfold machOk;rw[h,h2,bB hu hi];rfl
theorem K2 {cs us es:aa}(q:machOk cs us es=true):framesOk cs us=true/\tableOk es cs.length=true/\∀ i:Int,0<=i->i<cs.length->nT us i 0=ez es i:=by
 unfold machOk at q;simp only[Bool.and_eq_true]at q;refine⟨q.1.1,q.1.2,fun i h0 h1=>?_⟩;have:=cn.1 q.2 i h0 h1;unfold iO at this;simpa using this
def GQ :List aa->Int->List aa
 |[],_=>[]
 |r::rs,k=>am r k::GQ rs (ao [r] k)
theorem dk :∀ {rs:List aa} {k k':Int},ao (GQ rs k) k'=ao rs k'
 |[],_,_=>rfl
 | r::rs,k,k'=>by
   show ao (GQ rs (ao [r] k)) (cL (cL r k).1 k').2=ao rs (cL r k').2;rw[dx];exact dk
theorem GK {rs:List aa}(h:∀ r∈rs,(cL r 0).2<=(64*ah r:Nat))(hc:aw rs<=1099511627776):ao rs 1<=1152921504606846976:=Gq h (by omega) hc
theorem dO :∀ {rs:List aa} {r:aa} {n:Nat},aw rs<=n->r∈rs->ah r<=n
 | a::rs,r,n,h,hr=>by
   simp only[aw]at h;rcases List.mem_cons.1 hr with rfl|q
   ·omega
   ·exact dO (rs:=rs) (by omega) q
end Go.V
namespace Go.V
theorem xz :∀ {fs:List Ty} {e:aP},b9 fs e->e.length=fs.length
 |[],[],_=>rfl
 |[],_::_,h=>h.elim
 |_::_,[],h=>h.elim
 |_::fs,_::e,h=>by simp only[List.length_cons];rw[xz h.2]
theorem Rw.wid {fs:List Ty}{es:aa}(h:Rw fs es){n:Nat}(hn:n<es.length):(es.getD n []).length=fs.length:=xz (h.at hn)
theorem xx :∀ {es:aa} {n:Nat} {e:aP},bD (es.set n e)<=bD es+cI e
 |[],_,_=>by simp[bD]
 |a::es,0,e=>by simp only[List.set_cons_zero,bD];omega
 | a::es,n+1,e=>by
   have:=xx (es:=es) (n:=n) (e:=e);simp only[List.set_cons_succ,bD];omega
theorem Ar {es:aa}{n:Nat}{e:aP}:ah (es.set n e)<=ah es+cI e:=by
 unfold ah;rw[List.length_set];have:=xx (es:=es) (n:=n) (e:=e);omega
end Go.V
namespace Go.V
def lc (cs:aa)(fr k v:Int):aa:=cs.set fr.toNat [.s 1 ((aR cs fr 0).set k.toNat [.i v])]
theorem zn {cs:aa}{fr:Int}(h:Rw [.sl [tI]] cs)(h0:0<=fr)(h1:fr<cs.length):cs.getD fr.toNat []=[.s 1 (aR cs fr 0)]:=h.eta h0 h1
theorem EY {cs:aa}{fr k v:Int}(h:Rw [.sl [tI]] cs)(h0:0<=fr)(h1:fr<cs.length)(k0:0<=k)(k1:k<(aR cs fr 0).length):zA (.s 1 cs) [(fr.toNat,0),(k.toNat,0)] [.i v]=lc cs fr k v:=by
 have hr:Rw [tI] (aR cs fr 0):=Rw.sub (fs:=[.sl [tI]]) h (by omega) rfl;have hw:=hr.wid (n:=k.toNat) (by omega);show cs.set fr.toNat ((cs.getD fr.toNat []).set 0 (ki ((cs.getD fr.toNat []).getD 0 .g) [(k.toNat,0)] [.i v]))=_;rw[zn h h0 h1];show cs.set fr.toNat [.s 1 ((aR cs fr 0).set k.toNat (((aR cs fr 0).getD k.toNat []).take 0++[.i v]++((aR cs fr 0).getD k.toNat []).drop (0+1)))]=_;have hw':((aR cs fr 0).getD k.toNat []).length=1:=hw;rw[List.take_zero,List.drop_of_length_le (by omega)];rfl
theorem Dh {cs:aa}{fr k:Int}(h:Rw [.sl [tI]] cs)(h0:0<=fr)(h1:fr<cs.length)(k0:0<=k)(k1:k<(aR cs fr 0).length):∃ rec o',bN (.s 1 cs) [(fr.toNat,0),(k.toNat,0)]=some (rec,o')/\o'+1<=rec.length:=by
 have hr:Rw [tI] (aR cs fr 0):=Rw.sub (fs:=[.sl [tI]]) h (by omega) rfl;have hw:=hr.wid (n:=k.toNat) (by omega);refine⟨(aR cs fr 0).getD k.toNat [],0,?_,?_⟩
 ·have e:=zn h h0 h1;have e1:cs[fr.toNat]?=some [.s 1 (aR cs fr 0)]:=by
   rw[List.getD_eq_getElem?_getD,List.getElem?_eq_getElem (by omega)]at e;rw[List.getElem?_eq_getElem (by omega)];simpa using e
  show(match cs[fr.toNat]? with
   | some rec=>match rec[0]? with
     |some l=>bN l [(k.toNat,0)]
     |none=>none
   |none=>none)=_
  rw[e1];show(((aR cs fr 0)[k.toNat]?).map (·,0))=_;rw[List.getD_eq_getElem?_getD,List.getElem?_eq_getElem (by omega)];rfl
 ·rw[hw];exact Nat.le_refl _
theorem vC {cs:aa}{fr:Int}:qM (.s 1 cs) [(fr.toNat,0)]=aR cs fr 0:=ou
theorem Mb {cs:aa}{fr:Int}(h:Rw [.sl [tI]] cs)(h0:0<=fr)(h1:fr<cs.length):cs[fr.toNat]?=some [.s 1 (aR cs fr 0)]:=by
 have e:=zn h h0 h1;rw[List.getD_eq_getElem?_getD,List.getElem?_eq_getElem (by omega)]at e;rw[List.getElem?_eq_getElem (by omega)];simpa using e
theorem sT {cs:aa}{fr:Int}(h:Rw [.sl [tI]] cs)(h0:0<=fr)(h1:fr<cs.length):∃ rec o,bN (.s 1 cs) [(fr.toNat,0)]=some (rec,o)/\o+[L.s 1 []].length<=rec.length/\List.take [L.s 1 []].length (List.drop o rec)=jt aj (.s 1 cs) [(fr.toNat,0)] 0 [L.s 1 []]:=by
 refine⟨[.s 1 (aR cs fr 0)],0,?_,Nat.le_refl _,?_⟩
 ·show(cs[fr.toNat]?).map (·,0)=_;rw[Mb h h0 h1];rfl
 ·show[L.s 1 (aR cs fr 0)]=[L.s 1 (qM (.s 1 cs) [(fr.toNat,0)])];rw[vC]
theorem nV {cs:aa}{fr:Int}(h:Rw [.sl [tI]] cs)(h0:0<=fr)(h1:fr<cs.length):∃ es,gT (.s 1 cs) [(fr.toNat,0)]=some (1,es):=by
 refine⟨aR cs fr 0,?_⟩;rw[sS (by omega),zn h h0 h1];rfl
theorem Ba {cs:aa}{fr k v:Int}(h:Rw [.sl [tI]] cs)(h0:0<=fr)(h1:fr<cs.length)(hv: -9223372036854775808<=v/\v<=9223372036854775807):Rw [.sl [tI]] (lc cs fr k v):=by
 have hr:Rw [tI] (aR cs fr 0):=Rw.sub (fs:=[.sl [tI]]) h (by omega) rfl;exact h.set (show b9 [.sl [tI]] [.s 1 _]from⟨⟨rfl,hr.set (show b9 [tI] [.i v]from⟨⟨rfl,hv⟩,trivial⟩) _⟩,trivial⟩) _
theorem ET {cs:aa}{fr k v:Int}(h:Rw [.sl [tI]] cs)(h0:0<=fr)(h1:fr<cs.length):ah (lc cs fr k v)<=ah cs+ah cs:=by
 have hr:Rw [tI] (aR cs fr 0):=Rw.sub (fs:=[.sl [tI]]) h (by omega) rfl;have h2:=Ar (es:=cs) (n:=fr.toNat) (e:=[.s 1 ((aR cs fr 0).set k.toNat [.i v])]);have h3:=jP h h0 h1;have h4:cI [.s 1 ((aR cs fr 0).set k.toNat [.i v])]=ah ((aR cs fr 0).set k.toNat [.i v]):=by simp only[cI,eC,ah];omega
 have h5:=Ar (es:=aR cs fr 0) (n:=k.toNat) (e:=[.i v]);have h6:cI [.i v]=0:=rfl;unfold lc;omega
def smM (cs us es:aa)(a:Int):Int:=if machOk cs us es=true then OL es a else 0
def smF (cs us es:aa)(a:Int):Int:=if machOk cs us es=true then OK es a else 0
theorem vN {cs us es:aa}{a:Int}(h:machOk cs us es=true):smM cs us es a=OL es a/\smF cs us es a=OK es a:=by unfold smM smF;rw[if_pos h,if_pos h];exact⟨rfl,rfl⟩
theorem x9 {cs us es:aa}{a:Int}(h:machOk cs us es=false\/a<0):smM cs us es a=0/\smF cs us es a=0:=by
 unfold smM smF;rcases h with h|h
 ·rw[h];exact⟨rfl,rfl⟩
 ·rw[(Gx h).1,(Gx (es:=es) h).2.1];constructor<;>split<;>rfl
theorem Lv {cs us es:aa}{a:Int}(h:smM cs us es a≠0):machOk cs us es=true/\0<=a:=by
 constructor
 ·cases q:machOk cs us es
  ·exact absurd (x9 (.inl q)).1 h
  ·rfl
 ·rcases Int.lt_or_le a 0 with q|q
  ·exact absurd (x9 (.inr q)).1 h
  ·exact q
theorem Ej {cs us es:aa}{a:Int}(h:smM cs us es a≠0):0<=smF cs us es a/\smF cs us es a<cs.length/\1<=smM cs us es a/\smM cs us es a<=2/\(aR cs (smF cs us es a) 0).length=16:=by
 obtain⟨h0,h1⟩:=Lv h;rw[(vN h0).1,(vj (by omega)).1]at h ⊢;rw[(vN h0).2,(vj (by omega)).2.1];have hm:=K2 h0;have hp:=Ra hm.2.1 h;exact⟨hp.1,hp.2.1,hp.2.2.1,hp.2.2.2,KF hm.1 hp.1 hp.2.1⟩
def stK (cs us es:aa)(a v:Int):Int:=if smM cs us es a=0 then 1 else if smM cs us es a=1 then 2 else if inR v 0 999=true then 0 else 3
def stC (cs us es:aa)(a v:Int):aa:=if stK cs us es a v=0 then lc cs (smF cs us es a) (a%16) v else cs
theorem JG {cs us es:aa}{a v:Int}(h:smM cs us es a=0):stK cs us es a v=1/\stC cs us es a v=cs:=by
 have:stK cs us es a v=1:=by unfold stK;rw[if_pos h]
 exact⟨this,by unfold stC;rw[this];rfl⟩
theorem JH {cs us es:aa}{a v:Int}(h:smM cs us es a=1):stK cs us es a v=2/\stC cs us es a v=cs:=by
 have:stK cs us es a v=2:=by unfold stK;rw[if_neg (by omega),if_pos h]
 exact⟨this,by unfold stC;rw[this];rfl⟩
theorem JI {cs us es:aa}{a v:Int}(h0:smM cs us es a≠0)(h1:smM cs us es a≠1)(h:inR v 0 999=false):stK cs us es a v=3/\stC cs us es a v=cs:=by
 have:stK cs us es a v=3:=by unfold stK;rw[if_neg h0,if_neg h1,h];rfl
 exact⟨this,by unfold stC;rw[this];rfl⟩
theorem JF {cs us es:aa}{a v:Int}(h0:smM cs us es a≠0)(h1:smM cs us es a≠1)(h:inR v 0 999=true):stK cs us es a v=0/\stC cs us es a v=lc cs (smF cs us es a) (a%16) v:=by
 have:stK cs us es a v=0:=by unfold stK;rw[if_neg h0,if_neg h1,h];rfl
 exact⟨this,by unfold stC;rw[if_pos this]⟩
theorem El {a b c a' b' c':aa}{x y:Int}(h1:a=a')(h2:b=b')(h3:c=c')(h4:x=y):[DV.agg [.s 1 a,.s 1 b,.s 2 c],DV.j x]=[DV.agg [.s 1 a',.s 1 b',.s 2 c'],DV.j y]:=by rw[h1,h2,h3,h4]
theorem Od {cs us es:aa}{a v:Int}(h:Rw [.sl [tI]] cs)(hv: -9223372036854775808<=v/\v<=9223372036854775807):Rw [.sl [tI]] (stC cs us es a v):=by
 unfold stC;split
 ·rename_i q;have hm:smM cs us es a≠0:=fun e=>by rw[(JG e).1]at q;cases q
  have hf:=Ej hm;exact Ba h hf.1 hf.2.1 hv
 ·exact h
def clsSz (k:Int):Int:=if k=0 then 1 else if k=1 then 2 else if k=2 then 4 else if k=3 then 8 else 0
def clsOf (s:Int):Int:=if s<1 then-1 else if s<=1 then 0 else if s<=2 then 1 else if s<=4 then 2 else if s<=8 then 3 else-1
theorem Pi {k:Int}(h:inR k 0 3=false):clsSz k=0:=by rw[qB]at h;unfold clsSz;repeat' split<;>omega
theorem Kp {k:Int}(h:inR k 0 3=true):OQ .shl .i64 1 k=clsSz k:=by
 rw[bE]at h;rcases(show k=0\/k=1\/k=2\/k=3 by omega)with rfl|rfl|rfl|rfl<;>decide
theorem Kr {k:Int}(h:inR k 0 3=true):OV .u64 k=k:=by
 rw[bE]at h;rcases(show k=0\/k=1\/k=2\/k=3 by omega)with rfl|rfl|rfl|rfl<;>decide
theorem Kq {k s:Int}(h0:0<=k/\k<=3)(h:clsSz k<s)(hs:1<=s/\s<=8):k+1<=3:=by
 rcases(show k=0\/k=1\/k=2\/k=3 by omega)with rfl|rfl|rfl|rfl<;>simp[clsSz]at h<;>omega
theorem Pe {s:Int}(h:s<1\/8<s):clsOf s= -1:=by unfold clsOf;repeat' split<;>omega
theorem Mm {k s:Int}(h0:0<=k/\k<=3)(h:s<=clsSz k)(hs:1<=s/\s<=8)(hp:k=0\/clsSz (k-1)<s):clsOf s=k:=by
 rcases(show k=0\/k=1\/k=2\/k=3 by omega)with rfl|rfl|rfl|rfl<;>simp[clsSz]at h hp<;>unfold clsOf<;>repeat' split<;>omega
end Go.V
namespace Go.V
theorem Ko {s:Int}(h:0<=clsOf s):1<=s/\s<=clsSz (clsOf s)/\clsSz (clsOf s)<=8/\clsOf s<=3:=by
 unfold clsOf at h ⊢
 repeat' split at h
 all_goals simp_all [clsSz]
 all_goals omega
theorem pM {l:aa}{i:Int}(h0:0<=i):Lf (.s 1 l) [(i.toNat,0)]=ag l i 0:=by
 rw[Cm];unfold ag;rw[Int.toNat_natCast]
end Go.V
namespace Go.V
theorem zh {es:aa}{f:Int}:∀ {n:Nat} {e:aP},e∈sC es f n->∃ k:Nat,k<n/\e=[.i k]
 |0,e,h=>by cases h
 | n+1,e,h=>by
   unfold sC at h;split at h
   ·rcases List.mem_append.1 h with q|q
    ·obtain⟨k,hk,e⟩:=zh q;exact⟨k,by omega,e⟩
    ·rw[List.mem_singleton]at q;exact⟨n,by omega,q⟩
   ·obtain⟨k,hk,e⟩:=zh h;exact⟨k,by omega,e⟩
theorem He {es:aa}{f:Int}(h:es.length<=1099511627776):Rw [tI] (pagesOn es f):=by
 have hl:=xZ (es:=es) (f:=f);refine⟨by simp[maxLen];omega,fun e he=>?_⟩;obtain⟨k,hk,rfl⟩:=zh he;exact⟨⟨rfl,(show-9223372036854775808<=(k:Int)/\(k:Int)<=9223372036854775807 by omega)⟩,trivial⟩
end Go.V
namespace Go.V
def cE (p:Int->Bool)(n:Nat):Int:=match(List.range n).find? (fun j:Nat=>p (j:Int))with
 |some j=>(j:Int)
 |none=> -1
def cg (p:Int->Bool)(j:Int):Bool:= !p j
theorem eW {p:Int->Bool}{i:Int}(h:p i=false):cg p i=true:=by unfold cg;rw[h];rfl
theorem cJ {p:Int->Bool}{n:Nat}{i:Int}(h:upto (cg p) i)(h0:0<=i)(h1:i<n)(h2:p i=true):cE p n=i:=by
 have e:((i.toNat:Nat):Int)=i:=Int.toNat_of_nonneg h0;have:(List.range n).find? (fun j:Nat=>p (j:Int))=some i.toNat:=by
  rw[List.find?_range_eq_some];refine⟨by rw[e];exact h2,List.mem_range.2 (by omega),fun j hj=>?_⟩;exact h j (by omega) (by omega)
 unfold cE;rw[this];exact e
theorem cK {p:Int->Bool}{n:Nat}{i:Int}(h:upto (cg p) i)(h1:(n:Int)<=i):cE p n= -1:=by
 have:(List.range n).find? (fun j:Nat=>p (j:Int))=none:=by
  rw[List.find?_range_eq_none];intro j hj;exact h j (by omega) (by omega)
 unfold cE;rw[this]
theorem nQ {p:Int->Bool}{n:Nat}:cE p n= -1\/0<=cE p n/\cE p n<n:=by
 unfold cE;split
 ·rename_i j h;rw[List.find?_range_eq_some]at h;have:=List.mem_range.1 h.2.1;omega
 ·exact .inl rfl
def eqB (a b:Int):Bool:=decide (a=b)
theorem nM {a b:Int}(h:a=b):eqB a b=true:=decide_eq_true h
theorem qo {a b:Int}(h:a≠b):eqB a b=false:=decide_eq_false h
end Go.V
namespace Go.V
def pE (os:aa)(a j:Int):Bool:=eqB (ag os j 1) a
def obI (os:aa)(a:Int):Int:=cE (pE os a) os.length
def isSp (ss:aa)(p j:Int):Bool:=eqB (ag ss j 0) p
def spI (ss:aa)(p:Int):Int:=cE (isSp ss p) ss.length
end Go.V
namespace Go.V
def fpg (es:aa)(p:Int):aa:=if peM es p=0 then[]else pagesOn es (peF es p)
theorem FT {es:aa}{p:Int}(h:peM es p=0):fpg es p=[]:=by unfold fpg;rw[if_pos h]
theorem Dg {es:aa}{p:Int}(h:peM es p≠0):fpg es p=pagesOn es (peF es p):=by unfold fpg;rw[if_neg h]
theorem My {es:aa}{p:Int}(h:es.length<=1099511627776):Rw [tI] (fpg es p)/\(fpg es p).length<=1099511627776:=by
 unfold fpg;split
 ·exact⟨Rw.nil,by simp⟩
 ·exact⟨He h,Nat.le_trans xZ h⟩
def KQ (l:aa)(x j:Int):Bool:=eqB x (ag l j 0)
def M2 (l:aa)(x:Int):Int:=cE (KQ l x) l.length
def hasB (l:aa)(x:Int):Bool:=decide (0<=M2 l x)
theorem Di {l:aa}{x:Int}:hasB l x=true↔∃ k:Nat,k<l.length/\ag l k 0=x:=by
 unfold hasB M2;rw[decide_eq_true_eq]
 constructor
 ·intro h;unfold cE at h;split at h
  ·rename_i j hj;rw[List.find?_range_eq_some]at hj;refine⟨j,List.mem_range.1 hj.2.1,?_⟩;have:=hj.1;unfold KQ eqB at this;exact(of_decide_eq_true this).symm
  ·omega
 ·rintro⟨k,hk,e⟩;rcases nQ (p:=KQ l x) (n:=l.length)with q|q
  ·exfalso;unfold cE at q;split at q
   ·omega
   ·rename_i hn;rw[List.find?_range_eq_none]at hn;have:=hn k hk;unfold KQ eqB at this;rw[e]at this;simp at this
  ·exact q.1
end Go.V
namespace Go.V
def slB (b i:Int):Bool:=decide (0<=b)&&inR i 0 15
def hsB (b i:Int):Bool:=slB b i&&decide (bF .and .i64 (OQ .shr .i64 b i) 1=1)
theorem Ve {b i:Int}:slB b i=true↔0<=b/\0<=i/\i<=15:=by simp[slB,inR]
theorem P0 {b i:Int}(h:slB b i=false):hsB b i=false:=by unfold hsB;rw[h];rfl
theorem H7 {i:Int}(h0:0<=i)(h1:i<=15):OV .u64 i=i:=by
 show IntKind.wrap .u64 i=i;simp only[IntKind.wrap,IntKind.bits,IntKind.signed,Bool.false_and];rw[if_neg (by simp)];omega
end Go.V
namespace Go.V
def AU (rs:aa)(i:Int):Bool:=decide (0<=ag rs i 0)
def kZ (rs:aa):Bool:=ce (AU rs) rs.length&&decide (rs.length<=40)
def kerOk (cs us es:aa)(c:Int)(rs:aa):Bool:=machOk cs us es&&inR c 0 100000&&kZ rs
theorem Hs {rs:aa}{i:Int}(h:0<=ag rs i 0):AU rs i=true:=decide_eq_true h
theorem Ht {cs us es rs:aa}{c i:Int}(h0:0<=i)(h1:i<rs.length)(h:ag rs i 0<0):kerOk cs us es c rs=false:=by
 unfold kerOk kZ;rw[bM h0 h1 (by unfold AU;exact decide_eq_false (by omega))];simp
theorem Jw {rs:aa}{i:Int}(h:upto (AU rs) i)(hi:(rs.length:Int)<=i)(hl:(rs.length:Int)<=40):kZ rs=true:=by
 unfold kZ;rw[bB h hi,decide_eq_true (by omega)];rfl
theorem Jv {rs:aa}(hl:¬ (rs.length:Int)<=40):kZ rs=false:=by
 unfold kZ;rw[decide_eq_false (by omega)];simp
theorem I8 {cs us es rs:aa}{c:Int}(h1:machOk cs us es=true)(h2:inR c 0 100000=true)(h3:kZ rs=true):kerOk cs us es c rs=true:=by unfold kerOk;rw[h1,h2,h3];rfl
theorem I6 {cs us es rs:aa}{c:Int}(h1:machOk cs us es=false):kerOk cs us es c rs=false:=by unfold kerOk;rw[h1];rfl
theorem Dq {cs us es rs:aa}{c:Int}(h1:inR c 0 100000=false):kerOk cs us es c rs=false:=by unfold kerOk;rw[h1];simp
theorem I7 {cs us es rs:aa}{c:Int}(h1:kZ rs=false):kerOk cs us es c rs=false:=by unfold kerOk;rw[h1];simp
end Go.V
namespace Go.V
end Go.V
namespace Go.V
end Go.V
namespace Go.V
def slN (k:Int):Int:=if inR k 0 3=true then 16/clsSz k else 0
theorem IL {k:Int}(h:inR k 0 3=true):k=0\/k=1\/k=2\/k=3:=by have:=bE.1 h;omega
theorem gR {k:Int}(h:inR k 0 3=true):1<=clsSz k/\clsSz k<=8/\2<=slN k/\slN k<=16/\slN k*clsSz k=16:=by
 rcases IL h with rfl|rfl|rfl|rfl<;>decide
theorem HI {k:Int}(h:inR k 0 3=true):bF .quo .i64 16 (clsSz k)=slN k:=by
 rcases IL h with rfl|rfl|rfl|rfl<;>decide
theorem HJ {k:Int}(h:inR k 0 3=true):OQ .shr .i64 16 (OV .u64 k)=slN k:=by
 rcases IL h with rfl|rfl|rfl|rfl<;>decide
theorem Cz {k:Int}(h:inR k 0 3=false):slN k=0:=by unfold slN;rw[h];rfl
def bmOk (n b:Int):Bool:=inR n 1 16&&inR b 0 (2^n.toNat-1)
theorem HH {n:Int}(h:inR n 1 16=true):bF .sub .i64 (OQ .shl .i64 1 n) 1=2^n.toNat-1/\bF .sub .i64 (OQ .shl .i64 1 (OV .u64 n)) 1=2^n.toNat-1/\0<=OV .u64 n:=by
 have q:=bE.1 h;have:n=1\/n=2\/n=3\/n=4\/n=5\/n=6\/n=7\/n=8\/n=9\/n=10\/n=11\/n=12\/n=13\/n=14\/n=15\/n=16:=by omega
 rcases this with rfl|rfl|rfl|rfl|rfl|rfl|rfl|rfl|rfl|rfl|rfl|rfl|rfl|rfl|rfl|rfl<;>decide
theorem Ke {n b:Int}(h:inR n 1 16=false):bmOk n b=false:=by unfold bmOk;rw[h];rfl
theorem Fs {n b:Int}(h:inR n 1 16=true):bmOk n b=inR b 0 (2^n.toNat-1):=by unfold bmOk;rw[h];rfl
def spOk (p k b:Int):Bool:=inR p 0 31&&bmOk (slN k) b
theorem Fq {k b:Int}(h:inR k 0 3=false):bmOk (slN k) b=false:=by rw[Cz h];rfl
theorem HM {p k b:Int}(h:inR p 0 31=false):spOk p k b=false:=by unfold spOk;rw[h];rfl
theorem Oc {p k b:Int}(h:inR k 0 3=false):spOk p k b=false:=by unfold spOk;rw[Fq h,Bool.and_false]
theorem HN {p k b:Int}(h:inR p 0 31=true):spOk p k b=bmOk (slN k) b:=by unfold spOk;rw[h];rfl
theorem hZ {p k b:Int}(h:spOk p k b=true):0<=p/\p<=31/\inR k 0 3=true/\bmOk (slN k) b=true:=by
 unfold spOk at h;simp only[Bool.and_eq_true,bE]at h;refine⟨h.1.1,h.1.2,?_,h.2⟩;cases q:inR k 0 3
 ·rw[Fq q]at h;exact absurd h.2 (by decide)
 ·rfl
def pfN (s:Int):Int:=if inR s 9 1000=true then(s+15)/16 else 0
theorem NO {s:Int}(h:inR s 9 1000=true):bF .quo .i64 (bF .sub .i64 (bF .add .i64 s 16) 1) 16=pfN s:=by
 have q:=bE.1 h;have e1:bF .add .i64 s 16=s+16:=bc (by omega);have e2:bF .sub .i64 (s+16) 1=s+16-1:=cR (by omega);unfold pfN;rw[if_pos h,e1,e2,oz (by omega) (by omega) (by omega),show s+16-1=s+15 from by omega]
theorem Le {s:Int}(h:inR s 9 1000=false):pfN s=0:=by unfold pfN;rw[h];rfl
theorem gf {s:Int}(h:inR s 9 1000=true):1<=pfN s/\pfN s<=63/\s<=pfN s*16:=by
 have q:=bE.1 h;unfold pfN;rw[if_pos h];omega
theorem Hg {s:Int}:0<pfN s↔inR s 9 1000=true:=by
 constructor
 ·intro h;cases q:inR s 9 1000
  ·rw[Le q]at h;omega
  ·rfl
 ·intro h;have:=gf h;omega
def lgOk (p n s:Int):Bool:=inR s 9 1000&&(decide (n=pfN s)&&inR p 0 (32-n))
theorem GC {p n s:Int}(h:inR s 9 1000=false):lgOk p n s=false:=by unfold lgOk;rw[h];rfl
theorem GD {p n s:Int}(h:n≠pfN s):lgOk p n s=false:=by unfold lgOk;rw[decide_eq_false h];simp
theorem GE {p n s:Int}(h:inR s 9 1000=true)(h2:n=pfN s):lgOk p n s=inR p 0 (32-n):=by unfold lgOk;rw[h,decide_eq_true h2];rfl
theorem fM {p n s:Int}(h:lgOk p n s=true):inR s 9 1000=true/\n=pfN s/\0<=p/\p<=32-n:=by
 unfold lgOk at h;simp only[Bool.and_eq_true,decide_eq_true_eq,bE]at h;exact⟨bE.2 h.1,h.2.1,h.2.2⟩
def A7 (p k b a:Int):Bool:=spOk p k b&&inR a (p*16) (p*16+15)
def saS (p k b a:Int):Int:=if A7 p k b a=true then(a-p*16)/clsSz k else-1
def saO (p k b a:Int):Int:=if A7 p k b a=true then(a-p*16)%clsSz k else-1
theorem x7 {p k b a:Int}(h:A7 p k b a=false):saS p k b a= -1/\saO p k b a= -1:=by unfold saS saO;rw[h];exact⟨rfl,rfl⟩
theorem pU {p k b a:Int}(h:A7 p k b a=true):saS p k b a=(a-p*16)/clsSz k/\saO p k b a=(a-p*16)%clsSz k:=by unfold saS saO;rw[if_pos h,if_pos h];exact⟨rfl,rfl⟩
theorem vM {p k b a:Int}:A7 p k b a=true↔spOk p k b=true/\p*16<=a/\a<=p*16+15:=by unfold A7;rw[Bool.and_eq_true,bE]
def L9 (p k b s:Int):Bool:=spOk p k b&&inR s 0 (slN k-1)
def aaI (p k b s:Int):Int:=if L9 p k b s=true then p*16+s*clsSz k else-1
def lhB (p n s a:Int):Bool:=lgOk p n s&&inR a (p*16) (p*16+s-1)
def loI (p n s a:Int):Int:=if lhB p n s a=true then a-p*16 else-1
theorem GG {p n s a:Int}(h:lgOk p n s=false):lhB p n s a=false:=by unfold lhB;rw[h];rfl
theorem B9 {p n s a:Int}(h:lgOk p n s=true):lhB p n s a=inR a (p*16) (p*16+s-1):=by unfold lhB;rw[h];rfl
theorem Qv {p n s a:Int}(h:lhB p n s a=false):loI p n s a= -1:=by unfold loI;rw[h];rfl
theorem Np {p n s a:Int}(h:lhB p n s a=true):loI p n s a=a-p*16:=by unfold loI;rw[if_pos h]
theorem Cd {a b:Int}(h: -9223372036854775808<=a*b/\a*b<=9223372036854775807):bF .mul .i64 a b=a*b:=IntWalk.i64_in _ h
theorem Rb {p:Int}(h:0<=p/\p<=31):bF .mul .i64 p 16=p*16/\bF .sub .i64 (bF .add .i64 (p*16) 16) 1=p*16+15:=by
 have e1:bF .mul .i64 p 16=p*16:=Cd (by omega);have e2:bF .add .i64 (p*16) 16=p*16+16:=bc (by omega);have e3:bF .sub .i64 (p*16+16) 1=p*16+16-1:=cR (by omega);rw[e1,e2,e3];omega
theorem JB {p k b a:Int}(h:spOk p k b=true)(h1:inR a (p*16) (p*16+15)=true):saS p k b a=bF .quo .i64 (bF .sub .i64 a (p*16)) (clsSz k)/\saO p k b a=bF .rem .i64 (bF .sub .i64 a (p*16)) (clsSz k):=by
 have t:=hZ h;have q:=bE.1 h1;have c:=gR t.2.2.1;have y:=pU (vM.2 ⟨h,q⟩);have e:bF .sub .i64 a (p*16)=a-p*16:=cR (by omega);rw[y.1,y.2,e,oz (by omega) (by omega) (by omega),qN (by omega)];exact⟨rfl,rfl⟩
theorem Lt {p k b a:Int}(h:spOk p k b=false):A7 p k b a=false:=by unfold A7;rw[h];rfl
theorem R1 {p k b a:Int}(h:inR a (p*16) (p*16+15)=false):A7 p k b a=false:=by unfold A7;rw[h,Bool.and_false]
theorem JC {p k b a:Int}(h:spOk p k b=true)(h0:¬ a<0)(h1:bF .quo .i64 a 16=p)(ha:a<=9223372036854775807):saS p k b a=bF .quo .i64 (bF .rem .i64 a 16) (clsSz k)/\saO p k b a=bF .rem .i64 (bF .rem .i64 a 16) (clsSz k):=by
 have t:=hZ h;have c:=gR t.2.2.1;rw[oz (by omega) ha (by omega)]at h1;have e:bF .rem .i64 a 16=a%16:=qN (by omega);have y:=pU (vM.2 ⟨h,show p*16<=a/\a<=p*16+15 by omega⟩);rw[y.1,y.2,e,oz (by omega) (by omega) (by omega),qN (by omega),show a-p*16=a%16 by omega];exact⟨rfl,rfl⟩
theorem Lu {p k b a:Int}(h0:a<0\/bF .quo .i64 a 16≠p)(ha:a<=9223372036854775807):A7 p k b a=false:=by
 cases q:A7 p k b a
 ·rfl
 ·obtain⟨h,h1⟩:=vM.1 q;have t:=hZ h;rcases h0 with h0|h0
  ·omega
  ·rw[oz (by omega) ha (by omega)]at h0;omega
theorem Ma {p k b s:Int}(h:spOk p k b=true)(h1:inR s 0 (slN k-1)=true):bF .add .i64 (bF .mul .i64 p 16) (bF .mul .i64 s (clsSz k))=aaI p k b s:=by
 have t:=hZ h;have c:=gR t.2.2.1;have q:=bE.1 h1;have m1:0<=s*clsSz k:=Int.mul_nonneg q.1 (by omega);have m2:s*clsSz k<=(slN k-1)*clsSz k:=Int.mul_le_mul_of_nonneg_right q.2 (by omega);have m3:(slN k-1)*clsSz k=16-clsSz k:=by rw[Int.sub_mul,c.2.2.2.2,Int.one_mul]
 have e:bF .mul .i64 s (clsSz k)=s*clsSz k:=Cd (by omega);rw[(Rb ⟨t.1,t.2.1⟩).1,e];unfold aaI L9;rw[h,h1];exact bc (by omega)
theorem Kc {p k b s:Int}(h:spOk p k b=false\/inR s 0 (slN k-1)=false):aaI p k b s= -1:=by
 unfold aaI L9;rcases h with h|h
 ·rw[h];rfl
 ·rw[h,Bool.and_false];rfl
theorem GF {p n s:Int}(h:lgOk p n s=true):bF .mul .i64 p 16=p*16/\bF .add .i64 (bF .mul .i64 p 16) s=p*16+s/\bF .sub .i64 (bF .add .i64 (bF .mul .i64 p 16) s) 1=p*16+s-1:=by
 have t:=fM h;have b:=gf t.1;have q:=bE.1 t.1;have e1:bF .mul .i64 p 16=p*16:=Cd (by omega);have e2:bF .add .i64 (p*16) s=p*16+s:=bc (by omega);have e3:bF .sub .i64 (p*16+s) 1=p*16+s-1:=cR (by omega);rw[e1,e2,e3];exact⟨rfl,rfl,rfl⟩
theorem Nj {p n s a:Int}:lhB p n s a=true↔lgOk p n s=true/\p*16<=a/\a<=p*16+s-1:=by unfold lhB;rw[Bool.and_eq_true,bE]
theorem Qu {p n s a:Int}(h:lhB p n s a=true):bF .sub .i64 a (bF .mul .i64 p 16)=loI p n s a:=by
 obtain⟨h1,h2,h3⟩:=Nj.1 h;have t:=fM h1;have b:=gf t.1;have q:=bE.1 t.1;rw[(GF h1).1,Np h];exact cR (by omega)
end Go.V
namespace Go.V
def eS (l:List Int):aa:=l.map fun x=>[.i x]
theorem bR {l:List Int}:(eS l).length=l.length:=by unfold eS;rw[List.length_map]
theorem eH {a b:List Int}:eS (a++b)=eS a++eS b:=by unfold eS;rw[List.map_append]
theorem mL {l:List Int}{k:Nat}(h:k<l.length):ag (eS l) k 0=l[k]:=by
 have e:(eS l).getD k []=[.i l[k]]:=by
  unfold eS;rw[List.getD_eq_getElem?_getD,List.getElem?_map,List.getElem?_eq_getElem h];rfl
 unfold ag;rw[Int.toNat_natCast,e];rfl
theorem lC {l:List Int}{x:Int}:hasB (eS l) x=true↔x∈l:=by
 rw[Di]
 constructor
 ·rintro⟨k,hk,e⟩;rw[bR]at hk;rw[mL hk]at e;rw[<-e];exact List.getElem_mem hk
 ·intro h;obtain⟨k,hk,e⟩:=List.getElem_of_mem h;exact⟨k,by rw[bR];exact hk,by rw[mL hk];exact e⟩
theorem sV {l:List Int}{x:Int}(h:hasB (eS l) x=false):x∉l:=fun m=>by rw[lC.2 m]at h;cases h
theorem pT {l:List Int}(h:∀ x∈l,-9223372036854775808<=x/\x<=9223372036854775807)(hl:l.length<=70368744177664):Rw [tI] (eS l):=by
 refine⟨by rw[bR];unfold maxLen;omega,fun e he=>?_⟩;obtain⟨x,hx,rfl⟩:=List.mem_map.1 he;have q:=h x hx;exact⟨⟨rfl,by show-9223372036854775808<=x/\x<=(9223372036854775807:Int);exact q⟩,trivial⟩
theorem MD {l:aa}{x i:Int}(h:upto (cg (KQ l x)) i)(hi:(l.length:Int)<=i):hasB l x=false:=by
 unfold hasB M2;rw[cK h hi];rfl
def Lx (sp:aa)(i:Int):Bool:=spOk (ag sp i 0) (ag sp i 1) (ag sp i 2)
def Nh (lg:aa)(i:Int):Bool:=lgOk (ag lg i 0) (ag lg i 1) (ag lg i 2)
def iV (sp:aa):Nat->List Int
 |0=>[]
 |n+1=>iV sp n++[ag sp n 0]
def lJ (p:Int):Nat->List Int
 |0=>[]
 |n+1=>lJ p n++[p+n]
def iU (lg:aa):Nat->List Int
 |0=>[]
 |n+1=>iU lg n++lJ (ag lg n 0) (ag lg n 1).toNat
def qL (sp lg:aa):List Int:=iV sp sp.length++iU lg lg.length
def layOk (sp lg:aa):Bool:=(ce (Lx sp) sp.length&&ce (Nh lg) lg.length)&&decide (qL sp lg).Nodup
theorem k9 {sp:aa}{i:Int}(h:0<=i):iV sp (i+1).toNat=iV sp i.toNat++[ag sp i 0]:=by
 rw[show(i+1).toNat=i.toNat+1 from by omega,iV,Int.toNat_of_nonneg h]
theorem mE {lg:aa}{i:Int}(h:0<=i):iU lg (i+1).toNat=iU lg i.toNat++lJ (ag lg i 0) (ag lg i 1).toNat:=by
 rw[show(i+1).toNat=i.toNat+1 from by omega,iU,Int.toNat_of_nonneg h]
theorem vD {p i:Int}(h:0<=i):lJ p (i+1).toNat=lJ p i.toNat++[p+i]:=by
 rw[show(i+1).toNat=i.toNat+1 from by omega,lJ,Int.toNat_of_nonneg h]
theorem lN {sp:aa}:∀ {n:Nat},(iV sp n).length=n
 |0=>rfl
 |n+1=>by rw[iV,List.length_append,lN];rfl
theorem ox {p:Int}:∀ {n:Nat},(lJ p n).length=n
 |0=>rfl
 |n+1=>by rw[lJ,List.length_append,ox];rfl
theorem Ek {sp:aa}:∀ (m n:Nat),n<=m->∃ r,iV sp m=iV sp n++r
 |0,n,h=>⟨[],by rw[show n=0 by omega];rfl⟩
 | m+1,n,h=>by
   by_cases c:n=m+1
   ·subst c;exact⟨[],by simp⟩
   ·obtain⟨r,e⟩:=Ek (sp:=sp) m n (by omega);exact⟨r++[ag sp m 0],by rw[iV,e,List.append_assoc]⟩
theorem D3 {p:Int}:∀ (m n:Nat),n<=m->∃ r,lJ p m=lJ p n++r
 |0,n,h=>⟨[],by rw[show n=0 by omega];rfl⟩
 | m+1,n,h=>by
   by_cases c:n=m+1
   ·subst c;exact⟨[],by simp⟩
   ·obtain⟨r,e⟩:=D3 (p:=p) m n (by omega);exact⟨r++[p+m],by rw[lJ,e,List.append_assoc]⟩
theorem Dz {lg:aa}:∀ (m n:Nat),n<=m->∃ r,iU lg m=iU lg n++r
 |0,n,h=>⟨[],by rw[show n=0 by omega];rfl⟩
 | m+1,n,h=>by
   by_cases c:n=m+1
   ·subst c;exact⟨[],by simp⟩
   ·obtain⟨r,e⟩:=Dz (lg:=lg) m n (by omega);exact⟨r++lJ (ag lg m 0) (ag lg m 1).toNat,by rw[iU,e,List.append_assoc]⟩
theorem dup {a b l:List Int}{x:Int}(h:l=a++x::b)(hm:x∈a):¬ l.Nodup:=by
 rw[h,List.nodup_append];rintro⟨_,_,q⟩;exact q x hm x (by simp) rfl
theorem iu {a:List Int}{x:Int}(h:a.Nodup)(hx:x∉a):(a++[x]).Nodup:=by
 rw[List.nodup_append];exact⟨h,by simp,fun y hy z hz e=>by simp at hz;subst hz;subst e;exact hx hy⟩
theorem Ds {sp lg:aa}{i:Int}(h0:0<=i)(h1:i<sp.length)(h:spOk (ag sp i 0) (ag sp i 1) (ag sp i 2)=false):layOk sp lg=false:=by
 unfold layOk;rw[bM h0 h1 h];rfl
theorem Dt {sp lg:aa}{i:Int}(h0:0<=i)(h1:i<lg.length)(h:lgOk (ag lg i 0) (ag lg i 1) (ag lg i 2)=false):layOk sp lg=false:=by
 unfold layOk;rw[bM (p:=Nh lg) h0 h1 h,Bool.and_false];rfl
theorem Du {sp lg:aa}{i:Int}(h0:0<=i)(h1:i<sp.length)(h:ag sp i 0∈iV sp i.toNat):layOk sp lg=false:=by
 obtain⟨r,e⟩:=Ek (sp:=sp) sp.length (i+1).toNat (by omega);rw[k9 h0,List.append_assoc]at e;have:¬ (qL sp lg).Nodup:=dup (a:=iV sp i.toNat) (b:=r++iU lg lg.length) (x:=ag sp i 0) (by unfold qL;rw[e,List.append_assoc];rfl) h;unfold layOk;rw[decide_eq_false this,Bool.and_false]
theorem Dv {sp lg:aa}{i k:Int}(h0:0<=i)(h1:i<lg.length)(k0:0<=k)(k1:k<ag lg i 1)(h:ag lg i 0+k∈iV sp sp.length++iU lg i.toNat++lJ (ag lg i 0) k.toNat):layOk sp lg=false:=by
 obtain⟨r,e⟩:=Dz (lg:=lg) lg.length (i+1).toNat (by omega);obtain⟨r2,e2⟩:=D3 (p:=ag lg i 0) (ag lg i 1).toNat (k+1).toNat (by omega);rw[mE h0,e2,vD k0]at e;have:¬ (qL sp lg).Nodup:=dup (a:=iV sp sp.length++iU lg i.toNat++lJ (ag lg i 0) k.toNat) (b:=r2++r) (x:=ag lg i 0+k) (by unfold qL;rw[e];simp only[List.append_assoc];rfl) h;unfold layOk;rw[decide_eq_false this,Bool.and_false]
theorem Dx {sp lg:aa}{i j:Int}(h:upto (Lx sp) i)(hi:(sp.length:Int)<=i)(h2:upto (Nh lg) j)(hj:(lg.length:Int)<=j)(hn:(qL sp lg).Nodup):layOk sp lg=true:=by
 unfold layOk;rw[bB h hi,bB h2 hj,decide_eq_true hn];rfl
theorem Dw {sp lg:aa}(h:layOk sp lg=true):(∀ i:Int,0<=i->i<sp.length->spOk (ag sp i 0) (ag sp i 1) (ag sp i 2)=true)/\(∀ i:Int,0<=i->i<lg.length->lgOk (ag lg i 0) (ag lg i 1) (ag lg i 2)=true)/\(qL sp lg).Nodup:=by
 unfold layOk at h;simp only[Bool.and_eq_true,decide_eq_true_eq]at h;exact⟨cn.1 h.1.1,cn.1 h.1.2,h.2⟩
def OH (es:aa):Prop:=∀ e∈es,∃ (k:Int) (b:Bool),e=[.i k,.v (.bool b)]
theorem vm {k:Int}{b:Bool}{es:aa}{n:Int}:dm ([.i k,.v (.bool b)]::es) n=if k=n then some (0,.bool b)else(dm es n).map fun p=>(p.1+1,p.2):=rfl
theorem kQ {k:Int}{b:Bool}{es:aa}{n:Int}:mgbI ([.i k,.v (.bool b)]::es) n=if k=n then b else mgbI es n:=by
 unfold mgbI;rw[vm];by_cases c:k=n
 ·rw[if_pos c,if_pos c]
 ·rw[if_neg c,if_neg c];cases dm es n with
  |none=>rfl
  |some p=>obtain⟨j,v⟩:=p;cases v<;>rfl
theorem DK {k:Int}{b x:Bool}{es:aa}{n:Int}:jk ([.i k,.v (.bool b)]::es) n (.v (.bool x))=if k=n then[.i n,.v (.bool x)]::es else[.i k,.v (.bool b)]::jk es n (.v (.bool x)):=by
 unfold jk;rw[vm];by_cases c:k=n
 ·rw[if_pos c,if_pos c];rfl
 ·rw[if_neg c,if_neg c];cases dm es n with
  |none=>rfl
  |some p=>rfl
theorem VA {x:Bool}{n:Int}:∀ {es:aa},OH es->OH (jk es n (.v (.bool x)))/\∀ m,mgbI (jk es n (.v (.bool x))) m=if m=n then x else mgbI es m
 | [],_=>by
   refine⟨fun e he=>?_,fun m=>?_⟩
   ·have:e=[.i n,.v (.bool x)]:=by simpa[jk,dm]using he
    exact⟨n,x,this⟩
   ·show mgbI [[.i n,.v (.bool x)]] m=_;rw[kQ];by_cases c:m=n
    ·rw[if_pos c.symm,if_pos c]
    ·rw[if_neg (fun e=>c e.symm),if_neg c]
 | e::es,h=>by
   obtain⟨k,b,rfl⟩:=h e (by simp);have h':OH es:=fun e he=>h e (by simp[he])
   obtain⟨a1,a2⟩:=VA (x:=x) (n:=n) h';rw[DK];by_cases c:k=n
   ·rw[if_pos c];refine⟨fun e he=>?_,fun m=>?_⟩
    ·rcases List.mem_cons.1 he with rfl|he
     ·exact⟨n,x,rfl⟩
     ·exact h' e he
    ·rw[kQ,kQ];by_cases d:m=n
     ·rw[if_pos d.symm,if_pos d]
     ·rw[if_neg (fun e=>d e.symm),if_neg d,if_neg (fun e=>d (by rw[<-e,c]))]
   ·rw[if_neg c];refine⟨fun e he=>?_,fun m=>?_⟩
    ·rcases List.mem_cons.1 he with rfl|he
     ·exact⟨k,b,rfl⟩
     ·exact a1 e he
    ·rw[kQ,kQ,a2 m];by_cases d:k=m
     ·rw[if_pos d,if_pos d,if_neg (fun e=>c (d.trans e))]
     ·rw[if_neg d,if_neg d]
def muT (es:aa)(n:Int):aa:=jk es n (.v (.bool true))
structure lW (es:aa)(l:List Int):Prop where
 wf:OH es
 at_:∀ m,mgbI es m=true↔m∈l
theorem Cy :lW [] []:=⟨(fun e he=>by cases he),fun m=>by simp[mgbI,dm]⟩
theorem td {es:aa}{l:List Int}{n:Int}(h:lW es l):lW (jk es n (.v (.bool true))) (l++[n]):=by
 have q:=VA (x:=true) (n:=n) h.wf;refine⟨q.1,fun m=>?_⟩;rw[q.2 m];by_cases c:m=n
 ·rw[if_pos c];simp[c]
 ·rw[if_neg c,h.at_ m];simp[c]
def one (x:Int):aa:=[[.i x]]
structure Iq (sp:aa)(i:Int)(o:aa):Prop where
 e:o=eS (iV sp i.toNat)
 nd:(iV sp i.toNat).Nodup
 ok:upto (Lx sp) i
 b:∀ x∈iV sp i.toNat,0<=x/\x<=64
structure Oz (sp lg:aa)(j:Int)(o:aa):Prop where
 e:o=eS (iV sp sp.length++iU lg j.toNat)
 nd:(iV sp sp.length++iU lg j.toNat).Nodup
 oks:upto (Lx sp) sp.length
 ok:upto (Nh lg) j
 b:∀ x∈iV sp sp.length++iU lg j.toNat,0<=x/\x<=64
 l:(iU lg j.toNat).length<=64*j.toNat
structure Io (sp lg:aa)(j k:Int)(o:aa):Prop where
 e:o=eS (iV sp sp.length++iU lg j.toNat++lJ (ag lg j 0) k.toNat)
 nd:(iV sp sp.length++iU lg j.toNat++lJ (ag lg j 0) k.toNat).Nodup
 oks:upto (Lx sp) sp.length
 ok:upto (Nh lg) j
 b:∀ x∈iV sp sp.length++iU lg j.toNat++lJ (ag lg j 0) k.toNat,0<=x/\x<=64
 l:(iU lg j.toNat).length<=64*j.toNat
theorem Ft {l:List Int}(h:∀ x∈l,0<=x/\x<=64)(hl:l.length<=70368744177664):Rw [tI] (eS l):=pT (fun x hx=>by have:=h x hx;omega) hl
theorem An {l:List Int}{x:Int}(h:∀ x∈l,0<=x/\x<=64)(hx:0<=x/\x<=64):∀ y∈l++[x],0<=y/\y<=64:=by
 intro y hy;rcases List.mem_append.1 hy with q|q
 ·exact h y q
 ·simp at q;rw[q];exact hx
theorem Uq {sp:aa}:Iq sp 0 []:=⟨rfl,List.nodup_nil,bi,fun x hx=>by cases hx⟩
theorem GI {sp o:aa}{i:Int}(h:Iq sp i o):o.length=i.toNat:=by rw[h.e,bR,lN]
theorem Qw {sp o:aa}{i:Int}(h:Iq sp i o)(hi:i<=1073741824):Rw [tI] o:=by
 have l:=GI h;have e:=h.e;rw[e,bR]at l;rw[e];exact Ft h.b (by omega)
theorem Nq {sp lg o:aa}{i:Int}(h:Iq sp i o)(h0:0<=i)(h1:i<sp.length)(hh:hasB o (ag sp i 0)=true):layOk sp lg=false:=by
 rw[h.e,lC]at hh;exact Du h0 h1 hh
theorem Qx {sp o:aa}{i:Int}(h:Iq sp i o)(h0:0<=i)(hs:spOk (ag sp i 0) (ag sp i 1) (ag sp i 2)=true)(hh:hasB o (ag sp i 0)=false):Iq sp (i+1) (o++[[.i (ag sp i 0)]]):=by
 have t:=hZ hs;have e:=h.e;rw[e]at hh;have hm:=sV hh;exact⟨by rw[k9 h0,eH,e];rfl,by rw[k9 h0];exact iu h.nd hm,aV h.ok hs,by rw[k9 h0];exact An h.b (by omega)⟩
theorem Nr {sp lg o:aa}{i:Int}(h:Iq sp i o)(h1:i<=sp.length)(h2:(sp.length:Int)<=i):Oz sp lg 0 o:=by
 have e:i.toNat=sp.length:=by omega
 have ei:i=sp.length:=by omega
 have q1:=h.e;have q2:=h.nd;have q3:=h.ok;have q4:=h.b;rw[e]at q1 q2 q4;rw[ei]at q3;exact⟨by rw[q1];simp[iU],by simpa[iU]using q2,q3,bi,by simpa[iU]using q4,by simp[iU]⟩
theorem Up {sp lg o:aa}{j:Int}(h:Oz sp lg j o):Io sp lg j 0 o:=by
 refine⟨by rw[h.e];simp[lJ],by simpa[lJ]using h.nd,h.oks,h.ok,by simpa[lJ]using h.b,h.l⟩
theorem GH {sp lg o:aa}{j k:Int}(h:Io sp lg j k o):o.length<=sp.length+64*j.toNat+k.toNat:=by
 have l:=h.l;rw[h.e,bR,List.length_append,List.length_append,lN,ox];omega
theorem Qr {sp lg o:aa}{j k:Int}(h:Io sp lg j k o)(h1:sp.length<=1073741824)(h2:j<=1073741824)(h3:k<=64):Rw [tI] o:=by
 have l:=GH h;have e:=h.e;rw[e,bR]at l;rw[e];exact Ft h.b (by omega)
theorem Nk {sp lg o:aa}{j k:Int}(h:Io sp lg j k o)(h0:0<=j)(h1:j<lg.length)(k0:0<=k)(k1:k<ag lg j 1)(hh:hasB o (ag lg j 0+k)=true):layOk sp lg=false:=by
 rw[h.e,lC]at hh;exact Dv h0 h1 k0 k1 hh
theorem Qp {p n s k:Int}(h:lgOk p n s=true)(k0:0<=k)(k1:k<n):0<=p/\p+k<=32/\bF .add .i64 p k=p+k/\1<=n/\n<=32:=by
 have t:=fM h;have b:=gf t.1;have e:bF .add .i64 p k=p+k:=bc (by omega);exact⟨by omega,by omega,e,by omega,by omega⟩
theorem Qs {sp lg o:aa}{j k:Int}(h:Io sp lg j k o)(k0:0<=k)(hx:0<=ag lg j 0+k/\ag lg j 0+k<=64)(hh:hasB o (ag lg j 0+k)=false):Io sp lg j (k+1) (o++[[.i (ag lg j 0+k)]]):=by
 have e:=h.e;rw[e]at hh;have hm:=sV hh;have q:∀ A:List Int,A++lJ (ag lg j 0) (k+1).toNat=A++lJ (ag lg j 0) k.toNat++[ag lg j 0+k]:=fun A=>by rw[vD k0,List.append_assoc]
 exact⟨by rw[q,eH,e];rfl,by rw[q];exact iu h.nd hm,h.oks,h.ok,by rw[q];exact An h.b hx,h.l⟩
theorem Nl {sp lg o:aa}{j k:Int}(h:Io sp lg j k o)(j0:0<=j)(hl:lgOk (ag lg j 0) (ag lg j 1) (ag lg j 2)=true)(k0:0<=k)(k1:k<=ag lg j 1)(k2:ag lg j 1<=k):Oz sp lg (j+1) o:=by
 have t:=fM hl;have b:=gf t.1;have ek:k.toNat=(ag lg j 1).toNat:=by omega
 have q1:=h.e;have q2:=h.nd;have q4:=h.b;have q5:=h.l;rw[ek,List.append_assoc, <-mE j0]at q1 q2 q4;refine⟨q1,q2,h.oks,aV h.ok hl,q4,?_⟩;rw[mE j0,List.length_append,ox];omega
theorem Nn {sp lg o:aa}{j:Int}(h:Oz sp lg j o)(j1:j<=lg.length)(j2:(lg.length:Int)<=j):layOk sp lg=true:=by
 have e:j.toNat=lg.length:=by omega
 have q:=h.nd;rw[e]at q;exact Dx h.oks (Int.le_refl _) h.ok j2 q
end Go.V
namespace Go.V
structure LV (sp:aa)(i:Int)(es:aa):Prop where
 s:lW es (iV sp i.toNat)
 nd:(iV sp i.toNat).Nodup
 ok:upto (Lx sp) i
structure Oy (sp lg:aa)(j:Int)(es:aa):Prop where
 s:lW es (iV sp sp.length++iU lg j.toNat)
 nd:(iV sp sp.length++iU lg j.toNat).Nodup
 oks:upto (Lx sp) sp.length
 ok:upto (Nh lg) j
structure LS (sp lg:aa)(j k:Int)(es:aa):Prop where
 s:lW es (iV sp sp.length++iU lg j.toNat++lJ (ag lg j 0) k.toNat)
 nd:(iV sp sp.length++iU lg j.toNat++lJ (ag lg j 0) k.toNat).Nodup
 oks:upto (Lx sp) sp.length
 ok:upto (Nh lg) j
theorem HE {es:aa}{l:List Int}{n:Int}(h:lW es l)(e:mgbI es n=false):n∉l:=fun m=>by rw[(h.at_ n).2 m]at e;cases e
theorem Ui {sp:aa}:LV sp 0 []:=⟨Cy,List.nodup_nil,bi⟩
theorem M9 {sp lg es:aa}{i:Int}(h:LV sp i es)(h0:0<=i)(h1:i<sp.length)(hh:mgbI es (ag sp i 0)=true):layOk sp lg=false:=
 Du h0 h1 ((h.s.at_ _).1 hh)
theorem P8 {sp es:aa}{i:Int}(h:LV sp i es)(h0:0<=i)(hs:spOk (ag sp i 0) (ag sp i 1) (ag sp i 2)=true)(hh:mgbI es (ag sp i 0)=false):LV sp (i+1) (muT es (ag sp i 0)):=
 ⟨by rw[k9 h0];exact td h.s,by rw[k9 h0];exact iu h.nd (HE h.s hh),aV h.ok hs⟩
theorem Na {sp lg es:aa}{i:Int}(h:LV sp i es)(h1:i<=sp.length)(h2:(sp.length:Int)<=i):Oy sp lg 0 es:=by
 have e:i.toNat=sp.length:=by omega
 have ei:i=sp.length:=by omega
 have q1:=h.s;have q2:=h.nd;have q3:=h.ok;rw[e]at q1 q2;rw[ei]at q3;exact⟨by simpa[iU]using q1,by simpa[iU]using q2,q3,bi⟩
theorem Uh {sp lg es:aa}{j:Int}(h:Oy sp lg j es):LS sp lg j 0 es:=
 ⟨by simpa[lJ]using h.s,by simpa[lJ]using h.nd,h.oks,h.ok⟩
theorem M3 {sp lg es:aa}{j k:Int}(h:LS sp lg j k es)(h0:0<=j)(h1:j<lg.length)(k0:0<=k)(k1:k<ag lg j 1)(hh:mgbI es (ag lg j 0+k)=true):layOk sp lg=false:=
 Dv h0 h1 k0 k1 ((h.s.at_ _).1 hh)
theorem P7 {sp lg es:aa}{j k:Int}(h:LS sp lg j k es)(k0:0<=k)(hh:mgbI es (ag lg j 0+k)=false):LS sp lg j (k+1) (muT es (ag lg j 0+k)):=by
 have q:∀ A:List Int,A++lJ (ag lg j 0) (k+1).toNat=A++lJ (ag lg j 0) k.toNat++[ag lg j 0+k]:=fun A=>by rw[vD k0,List.append_assoc]
 exact⟨by rw[q];exact td h.s,by rw[q];exact iu h.nd (HE h.s hh),h.oks,h.ok⟩
theorem M4 {sp lg es:aa}{j k:Int}(h:LS sp lg j k es)(j0:0<=j)(hl:lgOk (ag lg j 0) (ag lg j 1) (ag lg j 2)=true)(k1:k<=ag lg j 1)(k2:ag lg j 1<=k):Oy sp lg (j+1) es:=by
 have ek:k.toNat=(ag lg j 1).toNat:=by omega
 have q1:=h.s;have q2:=h.nd;rw[ek,List.append_assoc, <-mE j0]at q1 q2;exact⟨q1,q2,h.oks,aV h.ok hl⟩
theorem M5 {sp lg es:aa}{j:Int}(h:Oy sp lg j es)(j1:j<=lg.length)(j2:(lg.length:Int)<=j):layOk sp lg=true:=by
 have e:j.toNat=lg.length:=by omega
 have q:=h.nd;rw[e]at q;exact Dx h.oks (Int.le_refl _) h.ok j2 q
theorem QR {b:Bool}(h:(!b)=false):b=true:=by cases b<;>simp_all
theorem QS {b:Bool}(h:(!b)=true):b=false:=by cases b<;>simp_all
end Go.V
namespace Go.V
def xh (sp:aa)(a i:Int):Bool:=decide (0<=saS (ag sp i 0) (ag sp i 1) (ag sp i 2) a)
def xd (lg:aa)(a i:Int):Bool:=lhB (ag lg i 0) (ag lg i 1) (ag lg i 2) a
def gn (sp:aa)(a:Int):Int:=cE (xh sp a) sp.length
def lz (lg:aa)(a:Int):Int:=cE (xd lg a) lg.length
def JE (sp:aa)(a i:Int):Int:=saS (ag sp i 0) (ag sp i 1) (ag sp i 2) a
def Lw (sp:aa)(a i:Int):Int:=saO (ag sp i 0) (ag sp i 1) (ag sp i 2) a
def Qt (lg:aa)(a i:Int):Int:=loI (ag lg i 0) (ag lg i 1) (ag lg i 2) a
def dnK (sp lg:aa)(a:Int):Int:=if 0<=gn sp a then(if hsB (ag sp (gn sp a) 2) (JE sp a (gn sp a))then 1 else 2)else if 0<=lz lg a then 3 else 0
def dnI (sp lg:aa)(a:Int):Int:=if 0<=gn sp a then gn sp a else if 0<=lz lg a then lz lg a else 0
def dnS (sp:aa)(a:Int):Int:=if 0<=gn sp a then JE sp a (gn sp a)else 0
def dnO (sp lg:aa)(a:Int):Int:=if 0<=gn sp a then Lw sp a (gn sp a)else if 0<=lz lg a then Qt lg a (lz lg a)else 0
def dzK (sp lg:aa)(a:Int):Int:=if layOk sp lg then dnK sp lg a else 0
def dzI (sp lg:aa)(a:Int):Int:=if layOk sp lg then dnI sp lg a else 0
def dzS (sp lg:aa)(a:Int):Int:=if layOk sp lg then dnS sp a else 0
def dzO (sp lg:aa)(a:Int):Int:=if layOk sp lg then dnO sp lg a else 0
theorem R0 {sp:aa}{a i:Int}(h:upto (cg (xh sp a)) i)(hs:saS (ag sp i 0) (ag sp i 1) (ag sp i 2) a<0):upto (cg (xh sp a)) (i+1):=
 aV h (by unfold cg xh;rw[decide_eq_false (by omega)];rfl)
theorem Qk {lg:aa}{a i:Int}(h:upto (cg (xd lg a)) i)(hs:lhB (ag lg i 0) (ag lg i 1) (ag lg i 2) a=false):upto (cg (xd lg a)) (i+1):=
 aV h (by unfold cg xd;rw[hs];rfl)
theorem KH {sp:aa}{a i:Int}(h:upto (cg (xh sp a)) i)(h0:0<=i)(h1:i<sp.length)(hs:0<=saS (ag sp i 0) (ag sp i 1) (ag sp i 2) a):gn sp a=i:=
 cJ h h0 h1 (decide_eq_true hs)
theorem KI {sp:aa}{a i:Int}(h:upto (cg (xh sp a)) i)(h1:(sp.length:Int)<=i):gn sp a= -1:=cK h h1
theorem Pu {lg:aa}{a i:Int}(h:upto (cg (xd lg a)) i)(h0:0<=i)(h1:i<lg.length)(hs:lhB (ag lg i 0) (ag lg i 1) (ag lg i 2) a=true):lz lg a=i:=
 cJ h h0 h1 hs
theorem Pv {lg:aa}{a i:Int}(h:upto (cg (xd lg a)) i)(h1:(lg.length:Int)<=i):lz lg a= -1:=cK h h1
def NM (k i s o:Int):List DV:=[DV.agg [.i k,.i i,.i s,.i o]]
def Ie (sp lg:aa)(a:Int):List DV:=NM (dnK sp lg a) (dnI sp lg a) (dnS sp a) (dnO sp lg a)
def To (sp lg:aa)(a:Int):List DV:=NM (dzK sp lg a) (dzI sp lg a) (dzS sp lg a) (dzO sp lg a)
theorem VE {sp lg:aa}{a i:Int}(h:upto (cg (xh sp a)) i)(h0:0<=i)(h1:i<sp.length)(hs:0<=saS (ag sp i 0) (ag sp i 1) (ag sp i 2) a)(hh:hsB (ag sp i 2) (saS (ag sp i 0) (ag sp i 1) (ag sp i 2) a)=true):
 NM 1 i (saS (ag sp i 0) (ag sp i 1) (ag sp i 2) a) (saO (ag sp i 0) (ag sp i 1) (ag sp i 2) a)=Ie sp lg a:=by
 have e:=KH h h0 h1 hs;unfold Ie dnK dnI dnS dnO JE Lw;rw[e,if_pos h0,if_pos h0,if_pos h0,if_pos h0,hh];rfl
theorem VF {sp lg:aa}{a i:Int}(h:upto (cg (xh sp a)) i)(h0:0<=i)(h1:i<sp.length)(hs:0<=saS (ag sp i 0) (ag sp i 1) (ag sp i 2) a)(hh:hsB (ag sp i 2) (saS (ag sp i 0) (ag sp i 1) (ag sp i 2) a)=false):
 NM 2 i (saS (ag sp i 0) (ag sp i 1) (ag sp i 2) a) (saO (ag sp i 0) (ag sp i 1) (ag sp i 2) a)=Ie sp lg a:=by
 have e:=KH h h0 h1 hs;unfold Ie dnK dnI dnS dnO JE Lw;rw[e,if_pos h0,if_pos h0,if_pos h0,if_pos h0,hh];rfl
theorem VG {sp lg:aa}{a i j:Int}(h:upto (cg (xh sp a)) i)(h1:(sp.length:Int)<=i)(g:upto (cg (xd lg a)) j)(j0:0<=j)(j1:j<lg.length)(hh:lhB (ag lg j 0) (ag lg j 1) (ag lg j 2) a=true):
 NM 3 j 0 (loI (ag lg j 0) (ag lg j 1) (ag lg j 2) a)=Ie sp lg a:=by
 have e:=KI h h1;have f:=Pu g j0 j1 hh;have n:¬ (0:Int)<= -1:=by omega
 unfold Ie dnK dnI dnS dnO Qt;rw[e,f,if_neg n,if_neg n,if_neg n,if_neg n,if_pos j0,if_pos j0,if_pos j0]
theorem VH {sp lg:aa}{a i j:Int}(h:upto (cg (xh sp a)) i)(h1:(sp.length:Int)<=i)(g:upto (cg (xd lg a)) j)(j1:(lg.length:Int)<=j):
 NM 0 0 0 0=Ie sp lg a:=by
 have e:=KI h h1;have f:=Pv g j1;have n:¬ (0:Int)<= -1:=by omega
 unfold Ie dnK dnI dnS dnO;rw[e,f,if_neg n,if_neg n,if_neg n,if_neg n,if_neg n,if_neg n,if_neg n]
theorem Wo {sp lg:aa}{a:Int}(h:layOk sp lg=true):Ie sp lg a=To sp lg a:=by
 unfold To Ie dzK dzI dzS dzO;rw[if_pos h,if_pos h,if_pos h,if_pos h]
theorem TL {sp lg:aa}{a:Int}(h:layOk sp lg=false):NM 0 0 0 0=To sp lg a:=by
 have n:¬ layOk sp lg=true:=by rw[h];decide
 unfold To dzK dzI dzS dzO;rw[if_neg n,if_neg n,if_neg n,if_neg n]
end Go.V
namespace Go.V
def sy (sp lg:aa)(a:Int):Bool:=decide (dzO sp lg a=0)&&(decide (dzK sp lg a=1)||decide (dzK sp lg a=3))
def Ih (sp lg:aa):Nat->aa
 |0=>[]
 |n+1=>Ih sp lg n++(if sy sp lg n then[[.i n]]else[])
def laL (sp lg:aa):aa:=if layOk sp lg then Ih sp lg 512 else[]
structure Im (sp lg:aa)(i:Int)(o:aa):Prop where
 e:o=Ih sp lg i.toNat
 l:o.length<=i.toNat
 y:0<i->layOk sp lg=true
theorem Ul {sp lg:aa}:Im sp lg 0 []:=⟨rfl,Nat.le_refl _,fun h=>absurd h (by omega)⟩
theorem Gt {sp lg:aa}{i:Int}(h:0<=i):Ih sp lg (i+1).toNat=Ih sp lg i.toNat++(if sy sp lg i then[[.i i]]else[]):=by
 rw[show(i+1).toNat=i.toNat+1 from by omega,Ih,Int.toNat_of_nonneg h]
theorem Gv {sp lg o:aa}{i:Int}(h:Im sp lg i o)(h0:0<=i)(hl:layOk sp lg=true)(hv:sy sp lg i=true):Im sp lg (i+1) (o++[[.i i]]):=by
 have e:=h.e;have l:=h.l;refine⟨by rw[Gt h0,if_pos hv, <-e],?_,fun _=>hl⟩;rw[List.length_append,List.length_cons,List.length_nil];omega
theorem KU {sp lg o:aa}{i:Int}(h:Im sp lg i o)(h0:0<=i)(hl:layOk sp lg=true)(hv:sy sp lg i=false):Im sp lg (i+1) o:=by
 have e:=h.e;have l:=h.l;refine⟨by rw[Gt h0,hv, <-e];simp,?_,fun _=>hl⟩;omega
theorem Nf {sp lg o:aa}{i:Int}(h:Im sp lg i o)(h1:i<=512)(h2:512<=i):o=laL sp lg:=by
 have e:i=512:=by omega
 subst e;unfold laL;rw[if_pos (h.y (by omega))];exact h.e
theorem Nc {sp lg o:aa}{i:Int}(h:Im sp lg i o)(h0:0<=i)(hl:layOk sp lg=false):o=laL sp lg:=by
 have z:i=0:=by
  by_cases c:0<i
  ·have:=h.y c;rw[hl]at this;cases this
  ·omega
 subst z;unfold laL;rw[hl];exact h.e
theorem QD {sp lg:aa}{a:Int}(h:dzO sp lg a=0)(k:dzK sp lg a=1):sy sp lg a=true:=by unfold sy;rw[h,k];rfl
theorem QE {sp lg:aa}{a:Int}(h:dzO sp lg a=0)(k:dzK sp lg a=3):sy sp lg a=true:=by unfold sy;rw[h,k];rfl
theorem QB {sp lg:aa}{a:Int}(h:dzO sp lg a≠0):sy sp lg a=false:=by unfold sy;rw[decide_eq_false h];rfl
theorem QC {sp lg:aa}{a:Int}(h:dzK sp lg a≠1)(k:dzK sp lg a≠3):sy sp lg a=false:=by unfold sy;rw[decide_eq_false h,decide_eq_false k,Bool.or_false,Bool.and_false]
theorem pS {a b:aa}(h:a=b):[DV.one (.s 1 a)]=[DV.one (.s 1 b)]:=by rw[h]
end Go.V