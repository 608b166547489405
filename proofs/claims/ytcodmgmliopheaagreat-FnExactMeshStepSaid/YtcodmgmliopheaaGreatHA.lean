/- Plain facts. -/
import Derived.Test.YtcodmgmliopheaaGreatVE
set_option linter.all false
open Go
open Bool renaming and_eq_true->AI,and_false->Ww
open Int renaming toNat_of_nonneg->VQ,toNat_natCast->V4,le_refl->XL
open IntKind renaming has->ZO,wrap->XU,bits->ZP,signed->ZQ
open IntWalk renaming i64_in->X0
open List renaming range->VW,mem_range->WN,length_append->By,mem_cons->VN,length_cons->V9,getD_eq_getElem?_getD->If,getElem?_eq_getElem->IN,take->Yv,drop->Yw,mem_append->BY,find?_range_eq_some->XD,find?_range_eq_none->Yn,append_assoc->IS,nodup_append->VP,nodup_nil->Wd
open Nat renaming le_refl->VJ
open Value renaming int->Wg
namespace Go.V
theorem uV {n:Int}(h:ZO .i64 n): -9223372036854775808<=n/\n<=9223372036854775807:=h
theorem cE {i:Int}(h0:0<=i)(h1:i<9223372036854775807):bJ .add .i64 i 1=i+1:=bB (by omega)
def inR (x a b:Int):Bool:=decide (a<=x)&&decide (x<=b)
theorem bH {x a b:Int}:inR x a b=true↔a<=x/\x<=b:=by simp[inR]
theorem nR {x a b:Int}:inR x a b=false↔x<a\/b<x:=by
 cases h:inR x a b
 ·simp only[true_iff];unfold inR at h;simp only[Bool.and_eq_false_iff,decide_eq_false_iff_not]at h;omega
 ·rw[bH]at h;constructor
  ·intro q;cases q
  ·omega
def b9 (p:Int->Bool)(n:Nat):Bool:=(VW n).all fun j=>p (j:Int)
def upto (p:Int->Bool)(i:Int):Prop:=∀ j:Int,0<=j->j<i->p j=true
theorem bu {p:Int->Bool}:upto p 0:=fun j h0 h1=>absurd h1 (by omega)
theorem aY {p:Int->Bool}{i:Int}(h:upto p i)(hp:p i=true):upto p (i+1):=fun j h0 h1=>by
 by_cases q:j=i
 ·subst q;exact hp
 ·exact h j h0 (by omega)
theorem cS {p:Int->Bool}{n:Nat}:b9 p n=true↔upto p n:=by
 simp only[b9,List.all_eq_true,WN];exact⟨fun h j h0 h1=>by have:=h j.toNat (by omega);rwa [VQ h0]at this,fun h x hx=>h x (by omega) (by omega)⟩
theorem bA {p:Int->Bool}{n:Nat}{i:Int}(h:upto p i)(hi:(n:Int)<=i):b9 p n=true:=cS.2 fun j h0 h1=>h j h0 (by omega)
theorem bI {p:Int->Bool}{n:Nat}{i:Int}(h0:0<=i)(h:i<n)(hp:p i=false):b9 p n=false:=by
 cases q:b9 p n
 ·rfl
 ·rw[cS.1 q i h0 h]at hp;cases hp
theorem eA {a b:Bool}(h:a=true↔b=true):a=b:=by cases a<;>cases b<;>simp_all
theorem ai {a b:Bool}(h:a=b):[DV.k a]=[DV.k b]:=by rw[h]
def ib (cs us:aa)(i k:Int):Bool:=inR (af (aO cs i 0) k 0) 0 999&&(oR us i 0||decide (af (aO cs i 0) k 0=0))
def eE (cs us:aa)(i:Int):Bool:=decide ((aO cs i 0).length=16)&&b9 (ib cs us i) 16
def framesOk (cs us:aa):Bool:=inR cs.length 1 32&&decide (us.length=cs.length)&&b9 (eE cs us) cs.length
def kz (es:aa)(fr i:Int):Bool:=inR (af es i 0) 0 2&&decide (af es i 0=0->af es i 1=0)&&decide (0<af es i 0->0<=af es i 1/\af es i 1<fr)
def tableOk (es:aa)(fr:Int):Bool:=b9 (kz es fr) es.length&&inR es.length 1 32
def sf (es:aa)(f:Int):Nat->aa
 |0=>[]
 |n+1=>if af es n 0≠0/\af es n 1=f then sf es f n++[[.i n]]else sf es f n
def pagesOn (es:aa)(f:Int):aa:=sf es f es.length
theorem zm {es:aa}{f:Int}:∀ {n:Nat},(sf es f n).length<=n
 |0=>Nat.zero_le _
 | n+1=>by
   have:=zm (es:=es) (f:=f) (n:=n);unfold sf;split
   ·rw[By];simp;omega
   ·omega
theorem DI {es:aa}{f:Int}{n:Nat}(h0:af es n 0≠0)(h1:af es n 1=f):sf es f (n+1)=sf es f n++[[.i n]]:=by rw[sf,if_pos ⟨h0,h1⟩]
theorem GK {es:aa}{f:Int}{n:Nat}(h:af es n 0=0\/af es n 1≠f):sf es f (n+1)=sf es f n:=by rw[sf,if_neg (by rintro⟨a,b⟩;rcases h with q|q;exact a q;exact q b)]
theorem IF {es:aa}{f i:Int}(hi:0<=i)(h0:af es i 0≠0)(h1:af es i 1=f):sf es f (i+1).toNat=sf es f i.toNat++[[.i i]]:=by
 have e:((i.toNat:Nat):Int)=i:=VQ hi;rw[show(i+1).toNat=i.toNat+1 from by omega,DI (by rw[e];exact h0) (by rw[e];exact h1),e]
theorem GJ {es:aa}{f i:Int}(hi:0<=i)(h:af es i 0=0\/af es i 1≠f):sf es f (i+1).toNat=sf es f i.toNat:=by
 have e:((i.toNat:Nat):Int)=i:=VQ hi;rw[show(i+1).toNat=i.toNat+1 from by omega,GK (by rw[e];exact h)]
theorem x7 {es:aa}{f:Int}:(pagesOn es f).length<=es.length:=zm
def eh (es:aa)(f:Int):Bool:=decide (0<(pagesOn es f).length)
theorem yZ {es:aa}{f:Int}:eh es f=true↔0<(pagesOn es f).length:=by simp[eh]
theorem LB {cs us:aa}(h:inR cs.length 1 32=false):framesOk cs us=false:=by unfold framesOk;rw[h];rfl
theorem LC {cs us:aa}(h:us.length≠cs.length):framesOk cs us=false:=by unfold framesOk;rw[decide_eq_false h];simp
theorem LD {cs us:aa}{i:Int}(h0:0<=i)(h1:i<cs.length)(h:(aO cs i 0).length≠16):framesOk cs us=false:=by
 unfold framesOk;rw[bI h0 h1 (by unfold eE;rw[decide_eq_false h];rfl)];simp
theorem Fu {cs us:aa}{i k:Int}(h0:0<=i)(h1:i<cs.length)(k0:0<=k)(k1:k<16)(h:inR (af (aO cs i 0) k 0) 0 999=false\/oR us i 0=false/\af (aO cs i 0) k 0≠0):framesOk cs us=false:=by
 unfold framesOk;rw[bI h0 h1 (by unfold eE;rw[bI k0 (by simpa using k1) (by unfold ib;rcases h with q|⟨q,q'⟩;rw[q];rfl;rw[q,decide_eq_false q'];simp)];simp)];simp
theorem LE {cs us:aa}{i:Int}(h1:inR cs.length 1 32=true)(h2:us.length=cs.length)(h:upto (eE cs us) i)(hi:(cs.length:Int)<=i):framesOk cs us=true:=by
 unfold framesOk;rw[h1,decide_eq_true h2,bA h hi];rfl
theorem Ov {cs us:aa}{i k:Int}(hl:(aO cs i 0).length=16)(h:upto (ib cs us i) k)(hk:16<=k):eE cs us i=true:=by
 unfold eE;rw[decide_eq_true hl,bA h (by simpa using hk)];rfl
theorem Od {cs us:aa}{i k:Int}(h:inR (af (aO cs i 0) k 0) 0 999=true)(h':oR us i 0=true\/af (aO cs i 0) k 0=0):ib cs us i k=true:=by
 unfold ib;rw[h];rcases h' with q|q
 ·rw[q];rfl
 ·rw[decide_eq_true q];simp
theorem Ct {k:Nat}{a b:aa}(h:a=b):[DV.one (.s k a)]=[DV.one (.s k b)]:=by rw[h]
theorem Q0 {es:aa}{n i:Int}(h0:0<=i)(h1:i<es.length)(h:¬ (0<=af es i 0/\af es i 0<=2/\(af es i 0=0->af es i 1=0)/\(0<af es i 0->0<=af es i 1/\af es i 1<n))):tableOk es n=false:=by
 unfold tableOk;rw[bI h0 h1];rfl;cases q:kz es n i
 ·rfl
 ·refine absurd ?_ h;unfold kz at q;simp only[AI,decide_eq_true_eq,bH]at q;exact⟨q.1.1.1,q.1.1.2,q.1.2,q.2⟩
theorem QZ {es:aa}{n i:Int}(h:0<=af es i 0/\af es i 0<=2/\(af es i 0=0->af es i 1=0)/\(0<af es i 0->0<=af es i 1/\af es i 1<n)):kz es n i=true:=by
 unfold kz;simp only[AI,decide_eq_true_eq,bH];exact⟨⟨⟨h.1,h.2.1⟩,h.2.2.1⟩,h.2.2.2⟩
theorem Nm {es:aa}{n i:Int}(h:upto (kz es n) i)(hi:(es.length:Int)<=i):tableOk es n=inR es.length 1 32:=by unfold tableOk;rw[bA h hi];rfl
theorem vN {es:aa}{n:Int}(h:tableOk es n=true):1<=es.length/\es.length<=32:=by
 unfold tableOk at h;simp only[AI,bH]at h;omega
theorem KO {es:aa}{n i:Int}(h:tableOk es n=true)(h0:0<=i)(h1:i<es.length):0<=af es i 0/\af es i 0<=2/\(af es i 0=0->af es i 1=0)/\(0<af es i 0->0<=af es i 1/\af es i 1<n):=by
 unfold tableOk at h;simp only[AI]at h;have q:=cS.1 h.1 i h0 h1;unfold kz at q;simp only[AI,decide_eq_true_eq,bH]at q;exact⟨q.1.1.1,q.1.1.2,q.1.2,q.2⟩
theorem uH {cs us:aa}(h:framesOk cs us=true):us.length=cs.length/\1<=cs.length/\cs.length<=32:=by
 unfold framesOk at h;simp only[AI,decide_eq_true_eq,bH]at h;omega
theorem JS {cs us:aa}{i:Int}(h:framesOk cs us=true)(h0:0<=i)(h1:i<cs.length):(aO cs i 0).length=16:=by
 unfold framesOk at h;simp only[AI,decide_eq_true_eq,bH]at h;have q:=cS.1 h.2 i h0 h1;unfold eE at q;simp only[AI,decide_eq_true_eq]at q;exact q.1
end Go.V
namespace Go.V
theorem vz {a n:Int}(h0:0<=a)(h1:a<=9223372036854775807)(hn:0<n):bJ .quo .i64 a n=a/n:=by
 show XU .i64 (a.tdiv n)=_;rw[Int.tdiv_eq_ediv_of_nonneg h0];have h2:0<=a/n:=Int.ediv_nonneg h0 (by omega);have h3:a/n<=a:=Int.ediv_le_self _ h0;exact X0 _ (by omega)
theorem ya {a n:Int}(h0:0<=a):bJ .rem .i64 a n=a%n:=Int.tmod_eq_emod_of_nonneg h0
theorem Dm {a:aa}{f:Int}:co .gtr (pagesOn a f).length 0=eh a f:=eA (by rw[yZ];simp only[SS];omega)
theorem Ir {a:aa}{f:Int}(h:(pagesOn a f).length=0):eh a f=false:=by unfold eh;rw[h];rfl
theorem Ai {a b a' b':Int}(h:a=a')(h':b=b'):[DV.agg [.i a,.i b]]=[DV.agg [.i a',.i b']]:=by rw[h,h']
theorem ES {a b c a' b' c':Int}(h:a=a')(h':b=b')(h'':c=c'):[DV.agg [.i a,.i b],DV.j c]=[DV.agg [.i a',.i b'],DV.j c']:=by rw[h,h',h'']
theorem uB {a b a' b':Int}(h:a=a')(h':b=b'):[DV.j a,DV.j b]=[DV.j a',DV.j b']:=by rw[h,h']
theorem cT {a b:Int}(h:a=b):[DV.j a]=[DV.j b]:=by rw[h]
def peM (es:aa)(p:Int):Int:=if 0<=p/\p<es.length then af es p 0 else 0
def peF (es:aa)(p:Int):Int:=if 0<=p/\p<es.length then af es p 1 else 0
theorem zh {es:aa}{p:Int}(h:0<=p/\p<es.length):peM es p=af es p 0/\peF es p=af es p 1:=by unfold peM peF;rw[if_pos h,if_pos h];exact⟨rfl,rfl⟩
theorem DF {es:aa}{p:Int}(h:¬ (0<=p/\p<es.length)):peM es p=0/\peF es p=0:=by unfold peM peF;rw[if_neg h,if_neg h];exact⟨rfl,rfl⟩
theorem Qb {es:aa}{n p:Int}(h:tableOk es n=true)(hm:peM es p≠0):0<=peF es p/\peF es p<n/\1<=peM es p/\peM es p<=2:=by
 by_cases q:0<=p/\p<es.length
 ·rw[(zh q).1]at hm ⊢;rw[(zh q).2];have:=KO h q.1 q.2;omega
 ·exact absurd (DF q).1 hm
def leM (es:aa)(a:Int):Int:=if a<0 then 0 else peM es (a/16)
def leF (es:aa)(a:Int):Int:=if a<0 then 0 else peF es (a/16)
def leK (a:Int):Int:=if a<0 then 0 else a%16
theorem vc {es:aa}{a:Int}(h:a<0):leM es a=0/\leF es a=0/\leK a=0:=by unfold leM leF leK;rw[if_pos h,if_pos h,if_pos h];exact⟨rfl,rfl,rfl⟩
theorem jn {es:aa}{a:Int}(h:¬ a<0):leM es a=peM es (a/16)/\leF es a=peF es (a/16)/\leK a=a%16:=by unfold leM leF leK;rw[if_neg h,if_neg h,if_neg h];exact⟨rfl,rfl,rfl⟩
end Go.V
namespace Go.V
theorem eX {fs:List Ty}{es:aa}{i:Int}(h:Rw [.sl fs] es)(h0:0<=i)(h1:i<es.length):es.take (i+1).toNat=es.take i.toNat++[[.s fs.length (aO es i 0)]]:=by
 rw[show(i+1).toNat=i.toNat+1 from by omega,dt (d:=[]) (show i.toNat<es.length by omega)];have e:=h.eta h0 h1;rw[e];rfl
theorem lH {fs:List Ty}{es:aa}{i:Int}(h:Rw [.sl fs] es)(h0:0<=i)(h1:i<es.length):ag (aO es i 0)+es.length<=ag es:=by
 have e:=h.eta h0 h1;have h2:=cq (es:=es) (n:=i.toNat) (by omega);have h3:=bF (es:=es) (n:=i.toNat+1);rw[e]at h2;have h4:cL (gP ah es i 0 (zR [Ty.sl fs]))=ag (aO es i 0):=by
  show cL [.s fs.length (aO es i 0)]=_;simp only[cL,eC,ag];omega
 rw[h4]at h2;show _<=es.length+bD es;omega
theorem aU {es:aa}:es.length<=ag es:=Nat.le_add_right _ _
theorem eW {es:aa}{i:Int}(h:(es.length:Int)<=i):es.take i.toNat=es:=List.take_of_length_le (by omega)
def ij (us es:aa)(i:Int):Bool:=oR us i 0==eh es i
def machOk (cs us es:aa):Bool:=framesOk cs us&&tableOk es cs.length&&b9 (ij us es) cs.length
theorem Dq {cs us es:aa}(h:framesOk cs us=false\/tableOk es cs.length=false):machOk cs us es=false:=by
 unfold machOk;rcases h with h|h<;>rw[h]<;>simp
theorem MF {cs us es:aa}(hf:framesOk cs us=true)(h:tableOk es us.length=false):machOk cs us es=false:=by
 rw[(uH hf).1]at h;exact Dq (.inr h)
theorem Gj {cs us es:aa}{i:Int}(h0:0<=i)(h1:i<cs.length)(h:oR us i 0≠eh es i):machOk cs us es=false:=by
 unfold machOk;rw[bI h0 h1 (by unfold ij;simpa using h)];simp
theorem Kh {us es:aa}{i:Int}(h:oR us i 0=eh es i):ij us es i=true:=by unfold ij;simpa using h
theorem Gl {cs us es:aa}{i:Int}(h:framesOk cs us=true)(h2:tableOk es us.length=true)(hu:upto (ij us es) i)(hi:(us.length:Int)<=i):machOk cs us es=true:=by
 rw[(uH h).1]at h2 hi;unfold machOk;rw[h,h2,bA hu hi];rfl
theorem Ki {cs us es:aa}(q:machOk cs us es=true):framesOk cs us=true/\tableOk es cs.length=true/\∀ i:Int,0<=i->i<cs.length->oR us i 0=eh es i:=by
 unfold machOk at q;simp only[AI]at q;refine⟨q.1.1,q.1.2,fun i h0 h1=>?_⟩;have:=cS.1 q.2 i h0 h1;unfold ij at this;simpa using this
def Gp :List aa->Int->List aa
 |[],_=>[]
 |r::rs,k=>ao r k::Gp rs (am [r] k)
theorem db :∀ {rs:List aa} {k k':Int},am (Gp rs k) k'=am rs k'
 |[],_,_=>rfl
 | r::rs,k,k'=>by
   show am (Gp rs (am [r] k)) (cD (cD r k).1 k').2=am rs (cD r k').2;rw[dn];exact db
theorem Gg {rs:List aa}(h:∀ r∈rs,(cD r 0).2<=(64*ag r:Nat))(hc:ax rs<=1099511627776):am rs 1<=1152921504606846976:=FW h (by omega) hc
theorem dM :∀ {rs:List aa} {r:aa} {n:Nat},ax rs<=n->r∈rs->ag r<=n
 | a::rs,r,n,h,hr=>by
   simp only[ax]at h;rcases VN.1 hr with rfl|q
   ·omega
   ·exact dM (rs:=rs) (by omega) q
end Go.V
namespace Go.V
theorem xz :∀ {fs:List Ty} {e:ay},ce fs e->e.length=fs.length
 |[],[],_=>rfl
 |[],_::_,h=>h.elim
 |_::_,[],h=>h.elim
 |_::fs,_::e,h=>by simp only[V9];rw[xz h.2]
theorem Rw.wid {fs:List Ty}{es:aa}(h:Rw fs es){n:Nat}(hn:n<es.length):(es.getD n []).length=fs.length:=xz (h.at hn)
end Go.V
namespace Go.V
def lX (cs:aa)(fr k v:Int):aa:=cs.set fr.toNat [.s 1 ((aO cs fr 0).set k.toNat [.i v])]
theorem zt {cs:aa}{fr:Int}(h:Rw [.sl [tI]] cs)(h0:0<=fr)(h1:fr<cs.length):cs.getD fr.toNat []=[.s 1 (aO cs fr 0)]:=h.eta h0 h1
theorem Je {cs:aa}{fr k v:Int}(h:Rw [.sl [tI]] cs)(h0:0<=fr)(h1:fr<cs.length)(k0:0<=k)(k1:k<(aO cs fr 0).length):wg (.s 1 cs) [(fr.toNat,0),(k.toNat,0)] [.i v]=lX cs fr k v:=by
 have hr:Rw [tI] (aO cs fr 0):=Rw.sub (fs:=[.sl [tI]]) h (by omega) rfl;have hw:=hr.wid (n:=k.toNat) (by omega);show cs.set fr.toNat ((cs.getD fr.toNat []).set 0 (fY ((cs.getD fr.toNat []).getD 0 .g) [(k.toNat,0)] [.i v]))=_;rw[zt h h0 h1];show cs.set fr.toNat [.s 1 ((aO cs fr 0).set k.toNat (((aO cs fr 0).getD k.toNat []).take 0++[.i v]++((aO cs fr 0).getD k.toNat []).drop (0+1)))]=_;have hw':((aO cs fr 0).getD k.toNat []).length=1:=hw;rw[List.take_zero,List.drop_of_length_le (by omega)];rfl
theorem C7 {cs:aa}{fr k:Int}(h:Rw [.sl [tI]] cs)(h0:0<=fr)(h1:fr<cs.length)(k0:0<=k)(k1:k<(aO cs fr 0).length):∃ rec o',bL (.s 1 cs) [(fr.toNat,0),(k.toNat,0)]=some (rec,o')/\o'+1<=rec.length:=by
 have hr:Rw [tI] (aO cs fr 0):=Rw.sub (fs:=[.sl [tI]]) h (by omega) rfl;have hw:=hr.wid (n:=k.toNat) (by omega);refine⟨(aO cs fr 0).getD k.toNat [],0,?_,?_⟩
 ·have e:=zt h h0 h1;have e1:cs[fr.toNat]?=some [.s 1 (aO cs fr 0)]:=by
   rw[If,IN (by omega)]at e;rw[IN (by omega)];simpa using e
  show(match cs[fr.toNat]? with
   | some rec=>match rec[0]? with
     |some l=>bL l [(k.toNat,0)]
     |none=>none
   |none=>none)=_
  rw[e1];show(((aO cs fr 0)[k.toNat]?).map (·,0))=_;rw[If,IN (by omega)];rfl
 ·rw[hw];exact VJ _
theorem vt {cs:aa}{fr:Int}:jy (.s 1 cs) [(fr.toNat,0)]=aO cs fr 0:=oj
theorem Lg {cs:aa}{fr:Int}(h:Rw [.sl [tI]] cs)(h0:0<=fr)(h1:fr<cs.length):cs[fr.toNat]?=some [.s 1 (aO cs fr 0)]:=by
 have e:=zt h h0 h1;rw[If,IN (by omega)]at e;rw[IN (by omega)];simpa using e
theorem nQ {cs:aa}{fr:Int}(h:Rw [.sl [tI]] cs)(h0:0<=fr)(h1:fr<cs.length):∃ rec o,bL (.s 1 cs) [(fr.toNat,0)]=some (rec,o)/\o+[L.s 1 []].length<=rec.length/\Yv [L.s 1 []].length (Yw o rec)=je ah (.s 1 cs) [(fr.toNat,0)] 0 [L.s 1 []]:=by
 refine⟨[.s 1 (aO cs fr 0)],0,?_,VJ _,?_⟩
 ·show(cs[fr.toNat]?).map (·,0)=_;rw[Lg h h0 h1];rfl
 ·show[L.s 1 (aO cs fr 0)]=[L.s 1 (jy (.s 1 cs) [(fr.toNat,0)])];rw[vt]
theorem kC {cs:aa}{fr:Int}(h:Rw [.sl [tI]] cs)(h0:0<=fr)(h1:fr<cs.length):∃ es,eY (.s 1 cs) [(fr.toNat,0)]=some (1,es):=by
 refine⟨aO cs fr 0,?_⟩;rw[sE (by omega),zt h h0 h1];rfl
theorem Ba {cs:aa}{fr k v:Int}(h:Rw [.sl [tI]] cs)(h0:0<=fr)(h1:fr<cs.length)(hv: -9223372036854775808<=v/\v<=9223372036854775807):Rw [.sl [tI]] (lX cs fr k v):=by
 have hr:Rw [tI] (aO cs fr 0):=Rw.sub (fs:=[.sl [tI]]) h (by omega) rfl;exact h.set (show ce [.sl [tI]] [.s 1 _]from⟨⟨rfl,hr.set (show ce [tI] [.i v]from⟨⟨rfl,hv⟩,trivial⟩) _⟩,trivial⟩) _
def smM (cs us es:aa)(a:Int):Int:=if machOk cs us es=true then leM es a else 0
def smF (cs us es:aa)(a:Int):Int:=if machOk cs us es=true then leF es a else 0
theorem mC {cs us es:aa}{a:Int}(h:machOk cs us es=true):smM cs us es a=leM es a/\smF cs us es a=leF es a:=by unfold smM smF;rw[if_pos h,if_pos h];exact⟨rfl,rfl⟩
theorem qC {cs us es:aa}{a:Int}(h:machOk cs us es=false\/a<0):smM cs us es a=0/\smF cs us es a=0:=by
 unfold smM smF;rcases h with h|h
 ·rw[h];exact⟨rfl,rfl⟩
 ·rw[(vc h).1,(vc (es:=es) h).2.1];constructor<;>split<;>rfl
theorem A8 {cs us es:aa}{a:Int}(h:smM cs us es a≠0):machOk cs us es=true/\0<=a:=by
 constructor
 ·cases q:machOk cs us es
  ·exact absurd (qC (.inl q)).1 h
  ·rfl
 ·rcases Int.lt_or_le a 0 with q|q
  ·exact absurd (qC (.inr q)).1 h
  ·exact q
theorem Hb {cs us es:aa}{a:Int}(h:smM cs us es a≠0):0<=smF cs us es a/\smF cs us es a<cs.length/\1<=smM cs us es a/\smM cs us es a<=2/\(aO cs (smF cs us es a) 0).length=16:=by
 obtain⟨h0,h1⟩:=A8 h;rw[(mC h0).1,(jn (by omega)).1]at h ⊢;rw[(mC h0).2,(jn (by omega)).2.1];have hm:=Ki h0;have hp:=Qb hm.2.1 h;exact⟨hp.1,hp.2.1,hp.2.2.1,hp.2.2.2,JS hm.1 hp.1 hp.2.1⟩
def stK (cs us es:aa)(a v:Int):Int:=if smM cs us es a=0 then 1 else if smM cs us es a=1 then 2 else if inR v 0 999=true then 0 else 3
def stC (cs us es:aa)(a v:Int):aa:=if stK cs us es a v=0 then lX cs (smF cs us es a) (a%16) v else cs
theorem Bb {cs us es:aa}{a v:Int}(h:smM cs us es a=0):stK cs us es a v=1/\stC cs us es a v=cs:=by
 have:stK cs us es a v=1:=by unfold stK;rw[if_pos h]
 exact⟨this,by unfold stC;rw[this];rfl⟩
theorem I1 {cs us es:aa}{a v:Int}(h:smM cs us es a=1):stK cs us es a v=2/\stC cs us es a v=cs:=by
 have:stK cs us es a v=2:=by unfold stK;rw[if_neg (by omega),if_pos h]
 exact⟨this,by unfold stC;rw[this];rfl⟩
theorem I2 {cs us es:aa}{a v:Int}(h0:smM cs us es a≠0)(h1:smM cs us es a≠1)(h:inR v 0 999=false):stK cs us es a v=3/\stC cs us es a v=cs:=by
 have:stK cs us es a v=3:=by unfold stK;rw[if_neg h0,if_neg h1,h];rfl
 exact⟨this,by unfold stC;rw[this];rfl⟩
theorem I0 {cs us es:aa}{a v:Int}(h0:smM cs us es a≠0)(h1:smM cs us es a≠1)(h:inR v 0 999=true):stK cs us es a v=0/\stC cs us es a v=lX cs (smF cs us es a) (a%16) v:=by
 have:stK cs us es a v=0:=by unfold stK;rw[if_neg h0,if_neg h1,h];rfl
 exact⟨this,by unfold stC;rw[if_pos this]⟩
theorem oD {a b c a' b' c':aa}{x y:Int}(h1:a=a')(h2:b=b')(h3:c=c')(h4:x=y):[DV.agg [.s 1 a,.s 1 b,.s 2 c],DV.j x]=[DV.agg [.s 1 a',.s 1 b',.s 2 c'],DV.j y]:=by rw[h1,h2,h3,h4]
theorem Nk {cs us es:aa}{a v:Int}(h:Rw [.sl [tI]] cs)(hv: -9223372036854775808<=v/\v<=9223372036854775807):Rw [.sl [tI]] (stC cs us es a v):=by
 unfold stC;split
 ·rename_i q;have hm:smM cs us es a≠0:=fun e=>by rw[(Bb e).1]at q;cases q
  have hf:=Hb hm;exact Ba h hf.1 hf.2.1 hv
 ·exact h
def clsSz (k:Int):Int:=if k=0 then 1 else if k=1 then 2 else if k=2 then 4 else if k=3 then 8 else 0
def clsOf (s:Int):Int:=if s<1 then-1 else if s<=1 then 0 else if s<=2 then 1 else if s<=4 then 2 else if s<=8 then 3 else-1
theorem Oh {k:Int}(h:inR k 0 3=false):clsSz k=0:=by rw[nR]at h;unfold clsSz;repeat' split<;>omega
theorem JG {k:Int}(h:inR k 0 3=true):NR .shl .i64 1 k=clsSz k:=by
 rw[bH]at h;rcases(show k=0\/k=1\/k=2\/k=3 by omega)with rfl|rfl|rfl|rfl<;>decide
theorem JI {k:Int}(h:inR k 0 3=true):NW .u64 k=k:=by
 rw[bH]at h;rcases(show k=0\/k=1\/k=2\/k=3 by omega)with rfl|rfl|rfl|rfl<;>decide
theorem JH {k s:Int}(h0:0<=k/\k<=3)(h:clsSz k<s)(hs:1<=s/\s<=8):k+1<=3:=by
 rcases(show k=0\/k=1\/k=2\/k=3 by omega)with rfl|rfl|rfl|rfl<;>simp[clsSz]at h<;>omega
theorem Oe {s:Int}(h:s<1\/8<s):clsOf s= -1:=by unfold clsOf;repeat' split<;>omega
theorem Lq {k s:Int}(h0:0<=k/\k<=3)(h:s<=clsSz k)(hs:1<=s/\s<=8)(hp:k=0\/clsSz (k-1)<s):clsOf s=k:=by
 rcases(show k=0\/k=1\/k=2\/k=3 by omega)with rfl|rfl|rfl|rfl<;>simp[clsSz]at h hp<;>unfold clsOf<;>repeat' split<;>omega
end Go.V
namespace Go.V
theorem jx {l:aa}{i:Int}(h0:0<=i):EN (.s 1 l) [(i.toNat,0)]=af l i 0:=by
 rw[Cn];unfold af;rw[V4]
theorem yN {l:aa}{i:Int}(h:Rw [tI] l)(h0:0<=i)(h1:i<l.length):∃ rec o,bL (.s 1 l) [(i.toNat,0)]=some (rec,o)/\o+[L.v (Wg .i64 0)].length<=rec.length/\Yv [L.v (Wg .i64 0)].length (Yw o rec)=je ah (.s 1 l) [(i.toNat,0)] 0 [L.v (Wg .i64 0)]:=by
 have e:l.getD i.toNat []=[L.i (af l i 0)]:=h.eta h0 h1;rw[If,IN (by omega)]at e;have e1:l[i.toNat]?=some [.i (af l i 0)]:=by
  rw[IN (by omega)];exact congrArg some e
 refine⟨[.i (af l i 0)],0,?_,VJ _,?_⟩
 ·rw[gA,e1];rfl
 ·show[L.i (af l i 0)]=[L.i (EN (.s 1 l) [(i.toNat,0)])];rw[jx h0]
end Go.V
namespace Go.V
theorem HK {fs:List Ty}{cs:aa}{fr:Int}(h:Rw [.sl fs] cs)(h0:0<=fr)(h1:fr<cs.length):cs[fr.toNat]?=some [.s fs.length (aO cs fr 0)]:=by
 have e:cs.getD fr.toNat []=[.s fs.length (aO cs fr 0)]:=h.eta h0 h1;rw[If,IN (by omega)]at e;rw[IN (by omega)];simpa using e
theorem zn {es:aa}{f:Int}:∀ {n:Nat} {e:ay},e∈sf es f n->∃ k:Nat,k<n/\e=[.i k]
 |0,e,h=>by cases h
 | n+1,e,h=>by
   unfold sf at h;split at h
   ·rcases BY.1 h with q|q
    ·obtain⟨k,hk,e⟩:=zn q;exact⟨k,by omega,e⟩
    ·rw[List.mem_singleton]at q;exact⟨n,by omega,q⟩
   ·obtain⟨k,hk,e⟩:=zn h;exact⟨k,by omega,e⟩
theorem GH {es:aa}{f:Int}(h:es.length<=1099511627776):Rw [tI] (pagesOn es f):=by
 have hl:=x7 (es:=es) (f:=f);refine⟨by simp[maxLen];omega,fun e he=>?_⟩;obtain⟨k,hk,rfl⟩:=zn he;exact⟨⟨rfl,(show-9223372036854775808<=(k:Int)/\(k:Int)<=9223372036854775807 by omega)⟩,trivial⟩
end Go.V
namespace Go.V
def cB (p:Int->Bool)(n:Nat):Int:=match(VW n).find? (fun j:Nat=>p (j:Int))with
 |some j=>(j:Int)
 |none=> -1
def cp (p:Int->Bool)(j:Int):Bool:= !p j
theorem jr {p:Int->Bool}{i:Int}(h:p i=false):cp p i=true:=by unfold cp;rw[h];rfl
theorem dD {p:Int->Bool}{n:Nat}{i:Int}(h:upto (cp p) i)(h0:0<=i)(h1:i<n)(h2:p i=true):cB p n=i:=by
 have e:((i.toNat:Nat):Int)=i:=VQ h0;have:(VW n).find? (fun j:Nat=>p (j:Int))=some i.toNat:=by
  rw[XD];refine⟨by rw[e];exact h2,WN.2 (by omega),fun j hj=>?_⟩;exact h j (by omega) (by omega)
 unfold cB;rw[this];exact e
theorem dE {p:Int->Bool}{n:Nat}{i:Int}(h:upto (cp p) i)(h1:(n:Int)<=i):cB p n= -1:=by
 have:(VW n).find? (fun j:Nat=>p (j:Int))=none:=by
  rw[Yn];intro j hj;exact h j (by omega) (by omega)
 unfold cB;rw[this]
theorem nJ {p:Int->Bool}{n:Nat}:cB p n= -1\/0<=cB p n/\cB p n<n:=by
 unfold cB;split
 ·rename_i j h;rw[XD]at h;have:=WN.1 h.2.1;omega
 ·exact .inl rfl
def eqB (a b:Int):Bool:=decide (a=b)
theorem uE {a b:Int}(h:a=b):eqB a b=true:=decide_eq_true h
theorem uD {a b:Int}(h:a≠b):eqB a b=false:=decide_eq_false h
end Go.V
namespace Go.V
def B4 (os:aa)(a j:Int):Bool:=eqB (af os j 1) a
def obI (os:aa)(a:Int):Int:=cB (B4 os a) os.length
def isSp (ss:aa)(p j:Int):Bool:=eqB (af ss j 0) p
def spI (ss:aa)(p:Int):Int:=cB (isSp ss p) ss.length
end Go.V
namespace Go.V
def fpg (es:aa)(p:Int):aa:=if peM es p=0 then[]else pagesOn es (peF es p)
theorem Ft {es:aa}{p:Int}(h:peM es p=0):fpg es p=[]:=by unfold fpg;rw[if_pos h]
theorem C6 {es:aa}{p:Int}(h:peM es p≠0):fpg es p=pagesOn es (peF es p):=by unfold fpg;rw[if_neg h]
theorem LA {es:aa}{p:Int}(h:es.length<=1099511627776):Rw [tI] (fpg es p)/\(fpg es p).length<=1099511627776:=by
 unfold fpg;split
 ·exact⟨Rw.nil,by simp⟩
 ·exact⟨GH h,Nat.le_trans x7 h⟩
def EJ (l:aa)(x j:Int):Bool:=eqB x (af l j 0)
def idxI (l:aa)(x:Int):Int:=cB (EJ l x) l.length
def hasB (l:aa)(x:Int):Bool:=decide (0<=idxI l x)
theorem C8 {l:aa}{x:Int}:hasB l x=true↔∃ k:Nat,k<l.length/\af l k 0=x:=by
 unfold hasB idxI;rw[decide_eq_true_eq]
 constructor
 ·intro h;unfold cB at h;split at h
  ·rename_i j hj;rw[XD]at hj;refine⟨j,WN.1 hj.2.1,?_⟩;have:=hj.1;unfold EJ eqB at this;exact(of_decide_eq_true this).symm
  ·omega
 ·rintro⟨k,hk,e⟩;rcases nJ (p:=EJ l x) (n:=l.length)with q|q
  ·exfalso;unfold cB at q;split at q
   ·omega
   ·rename_i hn;rw[Yn]at hn;have:=hn k hk;unfold EJ eqB at this;rw[e]at this;simp at this
  ·exact q.1
end Go.V
namespace Go.V
def slB (b i:Int):Bool:=decide (0<=b)&&inR i 0 15
def hsB (b i:Int):Bool:=slB b i&&decide (bJ .and .i64 (NR .shr .i64 b i) 1=1)
theorem Ue {b i:Int}:slB b i=true↔0<=b/\0<=i/\i<=15:=by simp[slB,inR]
theorem OU {b i:Int}(h:slB b i=false):hsB b i=false:=by unfold hsB;rw[h];rfl
theorem Hr {i:Int}(h0:0<=i)(h1:i<=15):NW .u64 i=i:=by
 show XU .u64 i=i;simp only[XU,ZP,ZQ,Bool.false_and];rw[if_neg (by simp)];omega
end Go.V
namespace Go.V
def AU (rs:aa)(i:Int):Bool:=decide (0<=af rs i 0)
def ox (rs:aa):Bool:=b9 (AU rs) rs.length&&decide (rs.length<=40)
def kerOk (cs us es:aa)(c:Int)(rs:aa):Bool:=machOk cs us es&&inR c 0 100000&&ox rs
theorem GV {rs:aa}{i:Int}(h:0<=af rs i 0):AU rs i=true:=decide_eq_true h
theorem GW {cs us es rs:aa}{c i:Int}(h0:0<=i)(h1:i<rs.length)(h:af rs i 0<0):kerOk cs us es c rs=false:=by
 unfold kerOk ox;rw[bI h0 h1 (by unfold AU;exact decide_eq_false (by omega))];simp
theorem IM {rs:aa}{i:Int}(h:upto (AU rs) i)(hi:(rs.length:Int)<=i)(hl:(rs.length:Int)<=40):ox rs=true:=by
 unfold ox;rw[bA h hi,decide_eq_true (by omega)];rfl
theorem IL {rs:aa}(hl:¬ (rs.length:Int)<=40):ox rs=false:=by
 unfold ox;rw[decide_eq_false (by omega)];simp
theorem Ik {cs us es rs:aa}{c:Int}(h1:machOk cs us es=false):kerOk cs us es c rs=false:=by unfold kerOk;rw[h1];rfl
theorem De {cs us es rs:aa}{c:Int}(h1:inR c 0 100000=false):kerOk cs us es c rs=false:=by unfold kerOk;rw[h1];simp
theorem Il {cs us es rs:aa}{c:Int}(h1:ox rs=false):kerOk cs us es c rs=false:=by unfold kerOk;rw[h1];simp
end Go.V
namespace Go.V
end Go.V
namespace Go.V
end Go.V
namespace Go.V
def slN (k:Int):Int:=if inR k 0 3=true then 16/clsSz k else 0
theorem HY {k:Int}(h:inR k 0 3=true):k=0\/k=1\/k=2\/k=3:=by have:=bH.1 h;omega
theorem gz {k:Int}(h:inR k 0 3=true):1<=clsSz k/\clsSz k<=8/\2<=slN k/\slN k<=16/\slN k*clsSz k=16:=by
 rcases HY h with rfl|rfl|rfl|rfl<;>decide
theorem G9 {k:Int}(h:inR k 0 3=true):bJ .quo .i64 16 (clsSz k)=slN k:=by
 rcases HY h with rfl|rfl|rfl|rfl<;>decide
theorem Ha {k:Int}(h:inR k 0 3=true):NR .shr .i64 16 (NW .u64 k)=slN k:=by
 rcases HY h with rfl|rfl|rfl|rfl<;>decide
theorem Cw {k:Int}(h:inR k 0 3=false):slN k=0:=by unfold slN;rw[h];rfl
def bmOk (n b:Int):Bool:=inR n 1 16&&inR b 0 (2^n.toNat-1)
theorem G8 {n:Int}(h:inR n 1 16=true):bJ .sub .i64 (NR .shl .i64 1 n) 1=2^n.toNat-1/\bJ .sub .i64 (NR .shl .i64 1 (NW .u64 n)) 1=2^n.toNat-1/\0<=NW .u64 n:=by
 have q:=bH.1 h;have:n=1\/n=2\/n=3\/n=4\/n=5\/n=6\/n=7\/n=8\/n=9\/n=10\/n=11\/n=12\/n=13\/n=14\/n=15\/n=16:=by omega
 rcases this with rfl|rfl|rfl|rfl|rfl|rfl|rfl|rfl|rfl|rfl|rfl|rfl|rfl|rfl|rfl|rfl<;>decide
theorem Jx {n b:Int}(h:inR n 1 16=false):bmOk n b=false:=by unfold bmOk;rw[h];rfl
theorem E1 {n b:Int}(h:inR n 1 16=true):bmOk n b=inR b 0 (2^n.toNat-1):=by unfold bmOk;rw[h];rfl
def spOk (p k b:Int):Bool:=inR p 0 31&&bmOk (slN k) b
theorem E0 {k b:Int}(h:inR k 0 3=false):bmOk (slN k) b=false:=by rw[Cw h];rfl
theorem Hd {p k b:Int}(h:inR p 0 31=false):spOk p k b=false:=by unfold spOk;rw[h];rfl
theorem Nj {p k b:Int}(h:inR k 0 3=false):spOk p k b=false:=by unfold spOk;rw[E0 h,Ww]
theorem He {p k b:Int}(h:inR p 0 31=true):spOk p k b=bmOk (slN k) b:=by unfold spOk;rw[h];rfl
theorem jH {p k b:Int}(h:spOk p k b=true):0<=p/\p<=31/\inR k 0 3=true/\bmOk (slN k) b=true:=by
 unfold spOk at h;simp only[AI,bH]at h;refine⟨h.1.1,h.1.2,?_,h.2⟩;cases q:inR k 0 3
 ·rw[E0 q]at h;exact absurd h.2 (by decide)
 ·rfl
def pfN (s:Int):Int:=if inR s 9 1000=true then(s+15)/16 else 0
theorem MX {s:Int}(h:inR s 9 1000=true):bJ .quo .i64 (bJ .sub .i64 (bJ .add .i64 s 16) 1) 16=pfN s:=by
 have q:=bH.1 h;have e1:bJ .add .i64 s 16=s+16:=bB (by omega);have e2:bJ .sub .i64 (s+16) 1=s+16-1:=cO (by omega);unfold pfN;rw[if_pos h,e1,e2,vz (by omega) (by omega) (by omega),show s+16-1=s+15 from by omega]
theorem Kx {s:Int}(h:inR s 9 1000=false):pfN s=0:=by unfold pfN;rw[h];rfl
theorem gQ {s:Int}(h:inR s 9 1000=true):1<=pfN s/\pfN s<=63/\s<=pfN s*16:=by
 have q:=bH.1 h;unfold pfN;rw[if_pos h];omega
theorem GI {s:Int}:0<pfN s↔inR s 9 1000=true:=by
 constructor
 ·intro h;cases q:inR s 9 1000
  ·rw[Kx q]at h;omega
  ·rfl
 ·intro h;have:=gQ h;omega
def lgOk (p n s:Int):Bool:=inR s 9 1000&&(decide (n=pfN s)&&inR p 0 (32-n))
theorem F8 {p n s:Int}(h:inR s 9 1000=false):lgOk p n s=false:=by unfold lgOk;rw[h];rfl
theorem F9 {p n s:Int}(h:n≠pfN s):lgOk p n s=false:=by unfold lgOk;rw[decide_eq_false h];simp
theorem Ga {p n s:Int}(h:inR s 9 1000=true)(h2:n=pfN s):lgOk p n s=inR p 0 (32-n):=by unfold lgOk;rw[h,decide_eq_true h2];rfl
theorem ig {p n s:Int}(h:lgOk p n s=true):inR s 9 1000=true/\n=pfN s/\0<=p/\p<=32-n:=by
 unfold lgOk at h;simp only[AI,decide_eq_true_eq,bH]at h;exact⟨bH.2 h.1,h.2.1,h.2.2⟩
def BA (p k b a:Int):Bool:=spOk p k b&&inR a (p*16) (p*16+15)
def saS (p k b a:Int):Int:=if BA p k b a=true then(a-p*16)/clsSz k else-1
def saO (p k b a:Int):Int:=if BA p k b a=true then(a-p*16)%clsSz k else-1
theorem yc {p k b a:Int}(h:BA p k b a=false):saS p k b a= -1/\saO p k b a= -1:=by unfold saS saO;rw[h];exact⟨rfl,rfl⟩
theorem vI {p k b a:Int}(h:BA p k b a=true):saS p k b a=(a-p*16)/clsSz k/\saO p k b a=(a-p*16)%clsSz k:=by unfold saS saO;rw[if_pos h,if_pos h];exact⟨rfl,rfl⟩
theorem A3 {p k b a:Int}:BA p k b a=true↔spOk p k b=true/\p*16<=a/\a<=p*16+15:=by unfold BA;rw[AI,bH]
def Le (p k b s:Int):Bool:=spOk p k b&&inR s 0 (slN k-1)
def aaI (p k b s:Int):Int:=if Le p k b s=true then p*16+s*clsSz k else-1
def lhB (p n s a:Int):Bool:=lgOk p n s&&inR a (p*16) (p*16+s-1)
def loI (p n s a:Int):Int:=if lhB p n s a=true then a-p*16 else-1
theorem Gc {p n s a:Int}(h:lgOk p n s=false):lhB p n s a=false:=by unfold lhB;rw[h];rfl
theorem Cb {p n s a:Int}(h:lgOk p n s=true):lhB p n s a=inR a (p*16) (p*16+s-1):=by unfold lhB;rw[h];rfl
theorem Pp {p n s a:Int}(h:lhB p n s a=false):loI p n s a= -1:=by unfold loI;rw[h];rfl
theorem MA {p n s a:Int}(h:lhB p n s a=true):loI p n s a=a-p*16:=by unfold loI;rw[if_pos h]
theorem Cf {a b:Int}(h: -9223372036854775808<=a*b/\a*b<=9223372036854775807):bJ .mul .i64 a b=a*b:=X0 _ h
theorem Qc {p:Int}(h:0<=p/\p<=31):bJ .mul .i64 p 16=p*16/\bJ .sub .i64 (bJ .add .i64 (p*16) 16) 1=p*16+15:=by
 have e1:bJ .mul .i64 p 16=p*16:=Cf (by omega);have e2:bJ .add .i64 (p*16) 16=p*16+16:=bB (by omega);have e3:bJ .sub .i64 (p*16+16) 1=p*16+16-1:=cO (by omega);rw[e1,e2,e3];omega
theorem IU {p k b a:Int}(h:spOk p k b=true)(h1:inR a (p*16) (p*16+15)=true):saS p k b a=bJ .quo .i64 (bJ .sub .i64 a (p*16)) (clsSz k)/\saO p k b a=bJ .rem .i64 (bJ .sub .i64 a (p*16)) (clsSz k):=by
 have t:=jH h;have q:=bH.1 h1;have c:=gz t.2.2.1;have y:=vI (A3.2 ⟨h,q⟩);have e:bJ .sub .i64 a (p*16)=a-p*16:=cO (by omega);rw[y.1,y.2,e,vz (by omega) (by omega) (by omega),ya (by omega)];exact⟨rfl,rfl⟩
theorem KG {p k b a:Int}(h:spOk p k b=false):BA p k b a=false:=by unfold BA;rw[h];rfl
theorem QQ {p k b a:Int}(h:inR a (p*16) (p*16+15)=false):BA p k b a=false:=by unfold BA;rw[h,Ww]
theorem IV {p k b a:Int}(h:spOk p k b=true)(h0:¬ a<0)(h1:bJ .quo .i64 a 16=p)(ha:a<=9223372036854775807):saS p k b a=bJ .quo .i64 (bJ .rem .i64 a 16) (clsSz k)/\saO p k b a=bJ .rem .i64 (bJ .rem .i64 a 16) (clsSz k):=by
 have t:=jH h;have c:=gz t.2.2.1;rw[vz (by omega) ha (by omega)]at h1;have e:bJ .rem .i64 a 16=a%16:=ya (by omega);have y:=vI (A3.2 ⟨h,show p*16<=a/\a<=p*16+15 by omega⟩);rw[y.1,y.2,e,vz (by omega) (by omega) (by omega),ya (by omega),show a-p*16=a%16 by omega];exact⟨rfl,rfl⟩
theorem KH {p k b a:Int}(h0:a<0\/bJ .quo .i64 a 16≠p)(ha:a<=9223372036854775807):BA p k b a=false:=by
 cases q:BA p k b a
 ·rfl
 ·obtain⟨h,h1⟩:=A3.1 q;have t:=jH h;rcases h0 with h0|h0
  ·omega
  ·rw[vz (by omega) ha (by omega)]at h0;omega
theorem Lf {p k b s:Int}(h:spOk p k b=true)(h1:inR s 0 (slN k-1)=true):bJ .add .i64 (bJ .mul .i64 p 16) (bJ .mul .i64 s (clsSz k))=aaI p k b s:=by
 have t:=jH h;have c:=gz t.2.2.1;have q:=bH.1 h1;have m1:0<=s*clsSz k:=Int.mul_nonneg q.1 (by omega);have m2:s*clsSz k<=(slN k-1)*clsSz k:=Int.mul_le_mul_of_nonneg_right q.2 (by omega);have m3:(slN k-1)*clsSz k=16-clsSz k:=by rw[Int.sub_mul,c.2.2.2.2,Int.one_mul]
 have e:bJ .mul .i64 s (clsSz k)=s*clsSz k:=Cf (by omega);rw[(Qc ⟨t.1,t.2.1⟩).1,e];unfold aaI Le;rw[h,h1];exact bB (by omega)
theorem Ju {p k b s:Int}(h:spOk p k b=false\/inR s 0 (slN k-1)=false):aaI p k b s= -1:=by
 unfold aaI Le;rcases h with h|h
 ·rw[h];rfl
 ·rw[h,Ww];rfl
theorem Gb {p n s:Int}(h:lgOk p n s=true):bJ .mul .i64 p 16=p*16/\bJ .add .i64 (bJ .mul .i64 p 16) s=p*16+s/\bJ .sub .i64 (bJ .add .i64 (bJ .mul .i64 p 16) s) 1=p*16+s-1:=by
 have t:=ig h;have b:=gQ t.1;have q:=bH.1 t.1;have e1:bJ .mul .i64 p 16=p*16:=Cf (by omega);have e2:bJ .add .i64 (p*16) s=p*16+s:=bB (by omega);have e3:bJ .sub .i64 (p*16+s) 1=p*16+s-1:=cO (by omega);rw[e1,e2,e3];exact⟨rfl,rfl,rfl⟩
theorem Mw {p n s a:Int}:lhB p n s a=true↔lgOk p n s=true/\p*16<=a/\a<=p*16+s-1:=by unfold lhB;rw[AI,bH]
theorem Po {p n s a:Int}(h:lhB p n s a=true):bJ .sub .i64 a (bJ .mul .i64 p 16)=loI p n s a:=by
 obtain⟨h1,h2,h3⟩:=Mw.1 h;have t:=ig h1;have b:=gQ t.1;have q:=bH.1 t.1;rw[(Gb h1).1,MA h];exact cO (by omega)
end Go.V
namespace Go.V
def eV (l:List Int):aa:=l.map fun x=>[.i x]
theorem bU {l:List Int}:(eV l).length=l.length:=by unfold eV;rw[List.length_map]
theorem eF {a b:List Int}:eV (a++b)=eV a++eV b:=by unfold eV;rw[List.map_append]
theorem pH {l:List Int}{k:Nat}(h:k<l.length):af (eV l) k 0=l[k]:=by
 have e:(eV l).getD k []=[.i l[k]]:=by
  unfold eV;rw[If,List.getElem?_map,IN h];rfl
 unfold af;rw[V4,e];rfl
theorem lh {l:List Int}{x:Int}:hasB (eV l) x=true↔x∈l:=by
 rw[C8]
 constructor
 ·rintro⟨k,hk,e⟩;rw[bU]at hk;rw[pH hk]at e;rw[<-e];exact List.getElem_mem hk
 ·intro h;obtain⟨k,hk,e⟩:=List.getElem_of_mem h;exact⟨k,by rw[bU];exact hk,by rw[pH hk];exact e⟩
theorem sG {l:List Int}{x:Int}(h:hasB (eV l) x=false):x∉l:=fun m=>by rw[lh.2 m]at h;cases h
theorem pI {l:List Int}(h:∀ x∈l,-9223372036854775808<=x/\x<=9223372036854775807)(hl:l.length<=70368744177664):Rw [tI] (eV l):=by
 refine⟨by rw[bU];unfold maxLen;omega,fun e he=>?_⟩;obtain⟨x,hx,rfl⟩:=List.mem_map.1 he;have q:=h x hx;exact⟨⟨rfl,by show-9223372036854775808<=x/\x<=(9223372036854775807:Int);exact q⟩,trivial⟩
theorem LG {l:aa}{x i:Int}(h:upto (cp (EJ l x)) i)(hi:(l.length:Int)<=i):hasB l x=false:=by
 unfold hasB idxI;rw[dE h hi];rfl
def KM (sp:aa)(i:Int):Bool:=spOk (af sp i 0) (af sp i 1) (af sp i 2)
def Mv (lg:aa)(i:Int):Bool:=lgOk (af lg i 0) (af lg i 1) (af lg i 2)
def iw (sp:aa):Nat->List Int
 |0=>[]
 |n+1=>iw sp n++[af sp n 0]
def lz (p:Int):Nat->List Int
 |0=>[]
 |n+1=>lz p n++[p+n]
def iu (lg:aa):Nat->List Int
 |0=>[]
 |n+1=>iu lg n++lz (af lg n 0) (af lg n 1).toNat
def vq (sp lg:aa):List Int:=iw sp sp.length++iu lg lg.length
def layOk (sp lg:aa):Bool:=(b9 (KM sp) sp.length&&b9 (Mv lg) lg.length)&&decide (vq sp lg).Nodup
theorem kS {sp:aa}{i:Int}(h:0<=i):iw sp (i+1).toNat=iw sp i.toNat++[af sp i 0]:=by
 rw[show(i+1).toNat=i.toNat+1 from by omega,iw,VQ h]
theorem mo {lg:aa}{i:Int}(h:0<=i):iu lg (i+1).toNat=iu lg i.toNat++lz (af lg i 0) (af lg i 1).toNat:=by
 rw[show(i+1).toNat=i.toNat+1 from by omega,iu,VQ h]
theorem vu {p i:Int}(h:0<=i):lz p (i+1).toNat=lz p i.toNat++[p+i]:=by
 rw[show(i+1).toNat=i.toNat+1 from by omega,lz,VQ h]
theorem lG {sp:aa}:∀ {n:Nat},(iw sp n).length=n
 |0=>rfl
 |n+1=>by rw[iw,By,lG];rfl
theorem om {p:Int}:∀ {n:Nat},(lz p n).length=n
 |0=>rfl
 |n+1=>by rw[lz,By,om];rfl
theorem D5 {sp:aa}:∀ (m n:Nat),n<=m->∃ r,iw sp m=iw sp n++r
 |0,n,h=>⟨[],by rw[show n=0 by omega];rfl⟩
 | m+1,n,h=>by
   by_cases c:n=m+1
   ·subst c;exact⟨[],by simp⟩
   ·obtain⟨r,e⟩:=D5 (sp:=sp) m n (by omega);exact⟨r++[af sp m 0],by rw[iw,e,IS]⟩
theorem DN {p:Int}:∀ (m n:Nat),n<=m->∃ r,lz p m=lz p n++r
 |0,n,h=>⟨[],by rw[show n=0 by omega];rfl⟩
 | m+1,n,h=>by
   by_cases c:n=m+1
   ·subst c;exact⟨[],by simp⟩
   ·obtain⟨r,e⟩:=DN (p:=p) m n (by omega);exact⟨r++[p+m],by rw[lz,e,IS]⟩
theorem Dn {lg:aa}:∀ (m n:Nat),n<=m->∃ r,iu lg m=iu lg n++r
 |0,n,h=>⟨[],by rw[show n=0 by omega];rfl⟩
 | m+1,n,h=>by
   by_cases c:n=m+1
   ·subst c;exact⟨[],by simp⟩
   ·obtain⟨r,e⟩:=Dn (lg:=lg) m n (by omega);exact⟨r++lz (af lg m 0) (af lg m 1).toNat,by rw[iu,e,IS]⟩
theorem dup {a b l:List Int}{x:Int}(h:l=a++x::b)(hm:x∈a):¬ l.Nodup:=by
 rw[h,VP];rintro⟨_,_,q⟩;exact q x hm x (by simp) rfl
theorem gZ {a:List Int}{x:Int}(h:a.Nodup)(hx:x∉a):(a++[x]).Nodup:=by
 rw[VP];exact⟨h,by simp,fun y hy z hz e=>by simp at hz;subst hz;subst e;exact hx hy⟩
theorem Dg {sp lg:aa}{i:Int}(h0:0<=i)(h1:i<sp.length)(h:spOk (af sp i 0) (af sp i 1) (af sp i 2)=false):layOk sp lg=false:=by
 unfold layOk;rw[bI h0 h1 h];rfl
theorem Dh {sp lg:aa}{i:Int}(h0:0<=i)(h1:i<lg.length)(h:lgOk (af lg i 0) (af lg i 1) (af lg i 2)=false):layOk sp lg=false:=by
 unfold layOk;rw[bI (p:=Mv lg) h0 h1 h,Ww];rfl
theorem Di {sp lg:aa}{i:Int}(h0:0<=i)(h1:i<sp.length)(h:af sp i 0∈iw sp i.toNat):layOk sp lg=false:=by
 obtain⟨r,e⟩:=D5 (sp:=sp) sp.length (i+1).toNat (by omega);rw[kS h0,IS]at e;have:¬ (vq sp lg).Nodup:=dup (a:=iw sp i.toNat) (b:=r++iu lg lg.length) (x:=af sp i 0) (by unfold vq;rw[e,IS];rfl) h;unfold layOk;rw[decide_eq_false this,Ww]
theorem Dj {sp lg:aa}{i k:Int}(h0:0<=i)(h1:i<lg.length)(k0:0<=k)(k1:k<af lg i 1)(h:af lg i 0+k∈iw sp sp.length++iu lg i.toNat++lz (af lg i 0) k.toNat):layOk sp lg=false:=by
 obtain⟨r,e⟩:=Dn (lg:=lg) lg.length (i+1).toNat (by omega);obtain⟨r2,e2⟩:=DN (p:=af lg i 0) (af lg i 1).toNat (k+1).toNat (by omega);rw[mo h0,e2,vu k0]at e;have:¬ (vq sp lg).Nodup:=dup (a:=iw sp sp.length++iu lg i.toNat++lz (af lg i 0) k.toNat) (b:=r2++r) (x:=af lg i 0+k) (by unfold vq;rw[e];simp only[IS];rfl) h;unfold layOk;rw[decide_eq_false this,Ww]
theorem Dk {sp lg:aa}{i j:Int}(h:upto (KM sp) i)(hi:(sp.length:Int)<=i)(h2:upto (Mv lg) j)(hj:(lg.length:Int)<=j)(hn:(vq sp lg).Nodup):layOk sp lg=true:=by
 unfold layOk;rw[bA h hi,bA h2 hj,decide_eq_true hn];rfl
theorem F2 {sp lg:aa}(h:layOk sp lg=true):(∀ i:Int,0<=i->i<sp.length->spOk (af sp i 0) (af sp i 1) (af sp i 2)=true)/\(∀ i:Int,0<=i->i<lg.length->lgOk (af lg i 0) (af lg i 1) (af lg i 2)=true)/\(vq sp lg).Nodup:=by
 unfold layOk at h;simp only[AI,decide_eq_true_eq]at h;exact⟨cS.1 h.1.1,cS.1 h.1.2,h.2⟩
def NJ (es:aa):Prop:=∀ e∈es,∃ (k:Int) (b:Bool),e=[.i k,.v (.bool b)]
theorem vg {k:Int}{b:Bool}{es:aa}{n:Int}:dc ([.i k,.v (.bool b)]::es) n=if k=n then some (0,.bool b)else(dc es n).map fun p=>(p.1+1,p.2):=rfl
theorem kH {k:Int}{b:Bool}{es:aa}{n:Int}:mgbI ([.i k,.v (.bool b)]::es) n=if k=n then b else mgbI es n:=by
 unfold mgbI;rw[vg];by_cases c:k=n
 ·rw[if_pos c,if_pos c]
 ·rw[if_neg c,if_neg c];cases dc es n with
  |none=>rfl
  |some p=>obtain⟨j,v⟩:=p;cases v<;>rfl
theorem Du {k:Int}{b x:Bool}{es:aa}{n:Int}:iV ([.i k,.v (.bool b)]::es) n (.v (.bool x))=if k=n then[.i n,.v (.bool x)]::es else[.i k,.v (.bool b)]::iV es n (.v (.bool x)):=by
 unfold iV;rw[vg];by_cases c:k=n
 ·rw[if_pos c,if_pos c];rfl
 ·rw[if_neg c,if_neg c];cases dc es n with
  |none=>rfl
  |some p=>rfl
theorem UA {x:Bool}{n:Int}:∀ {es:aa},NJ es->NJ (iV es n (.v (.bool x)))/\∀ m,mgbI (iV es n (.v (.bool x))) m=if m=n then x else mgbI es m
 | [],_=>by
   refine⟨fun e he=>?_,fun m=>?_⟩
   ·have:e=[.i n,.v (.bool x)]:=by simpa[iV,dc]using he
    exact⟨n,x,this⟩
   ·show mgbI [[.i n,.v (.bool x)]] m=_;rw[kH];by_cases c:m=n
    ·rw[if_pos c.symm,if_pos c]
    ·rw[if_neg (fun e=>c e.symm),if_neg c]
 | e::es,h=>by
   obtain⟨k,b,rfl⟩:=h e (by simp);have h':NJ es:=fun e he=>h e (by simp[he])
   obtain⟨a1,a2⟩:=UA (x:=x) (n:=n) h';rw[Du];by_cases c:k=n
   ·rw[if_pos c];refine⟨fun e he=>?_,fun m=>?_⟩
    ·rcases VN.1 he with rfl|he
     ·exact⟨n,x,rfl⟩
     ·exact h' e he
    ·rw[kH,kH];by_cases d:m=n
     ·rw[if_pos d.symm,if_pos d]
     ·rw[if_neg (fun e=>d e.symm),if_neg d,if_neg (fun e=>d (by rw[<-e,c]))]
   ·rw[if_neg c];refine⟨fun e he=>?_,fun m=>?_⟩
    ·rcases VN.1 he with rfl|he
     ·exact⟨k,b,rfl⟩
     ·exact a1 e he
    ·rw[kH,kH,a2 m];by_cases d:k=m
     ·rw[if_pos d,if_pos d,if_neg (fun e=>c (d.trans e))]
     ·rw[if_neg d,if_neg d]
def muT (es:aa)(n:Int):aa:=iV es n (.v (.bool true))
structure lP (es:aa)(l:List Int):Prop where
 wf:NJ es
 at_:∀ m,mgbI es m=true↔m∈l
theorem Cu :lP [] []:=⟨(fun e he=>by cases he),fun m=>by simp[mgbI,dc]⟩
theorem sN {es:aa}{l:List Int}{n:Int}(h:lP es l):lP (iV es n (.v (.bool true))) (l++[n]):=by
 have q:=UA (x:=true) (n:=n) h.wf;refine⟨q.1,fun m=>?_⟩;rw[q.2 m];by_cases c:m=n
 ·rw[if_pos c];simp[c]
 ·rw[if_neg c,h.at_ m];simp[c]
def one (x:Int):aa:=[[.i x]]
structure HE (sp:aa)(i:Int)(o:aa):Prop where
 e:o=eV (iw sp i.toNat)
 nd:(iw sp i.toNat).Nodup
 ok:upto (KM sp) i
 b:∀ x∈iw sp i.toNat,0<=x/\x<=64
structure ND (sp lg:aa)(j:Int)(o:aa):Prop where
 e:o=eV (iw sp sp.length++iu lg j.toNat)
 nd:(iw sp sp.length++iu lg j.toNat).Nodup
 oks:upto (KM sp) sp.length
 ok:upto (Mv lg) j
 b:∀ x∈iw sp sp.length++iu lg j.toNat,0<=x/\x<=64
 l:(iu lg j.toNat).length<=64*j.toNat
structure HD (sp lg:aa)(j k:Int)(o:aa):Prop where
 e:o=eV (iw sp sp.length++iu lg j.toNat++lz (af lg j 0) k.toNat)
 nd:(iw sp sp.length++iu lg j.toNat++lz (af lg j 0) k.toNat).Nodup
 oks:upto (KM sp) sp.length
 ok:upto (Mv lg) j
 b:∀ x∈iw sp sp.length++iu lg j.toNat++lz (af lg j 0) k.toNat,0<=x/\x<=64
 l:(iu lg j.toNat).length<=64*j.toNat
theorem E2 {l:List Int}(h:∀ x∈l,0<=x/\x<=64)(hl:l.length<=70368744177664):Rw [tI] (eV l):=pI (fun x hx=>by have:=h x hx;omega) hl
theorem Am {l:List Int}{x:Int}(h:∀ x∈l,0<=x/\x<=64)(hx:0<=x/\x<=64):∀ y∈l++[x],0<=y/\y<=64:=by
 intro y hy;rcases BY.1 hy with q|q
 ·exact h y q
 ·simp at q;rw[q];exact hx
theorem Tg {sp:aa}:HE sp 0 []:=⟨rfl,Wd,bu,fun x hx=>by cases hx⟩
theorem Ge {sp o:aa}{i:Int}(h:HE sp i o):o.length=i.toNat:=by rw[h.e,bU,lG]
theorem Pq {sp o:aa}{i:Int}(h:HE sp i o)(hi:i<=1073741824):Rw [tI] o:=by
 have l:=Ge h;have e:=h.e;rw[e,bU]at l;rw[e];exact E2 h.b (by omega)
theorem MB {sp lg o:aa}{i:Int}(h:HE sp i o)(h0:0<=i)(h1:i<sp.length)(hh:hasB o (af sp i 0)=true):layOk sp lg=false:=by
 rw[h.e,lh]at hh;exact Di h0 h1 hh
theorem Ps {sp o:aa}{i:Int}(h:HE sp i o)(h0:0<=i)(hs:spOk (af sp i 0) (af sp i 1) (af sp i 2)=true)(hh:hasB o (af sp i 0)=false):HE sp (i+1) (o++[[.i (af sp i 0)]]):=by
 have t:=jH hs;have e:=h.e;rw[e]at hh;have hm:=sG hh;exact⟨by rw[kS h0,eF,e];rfl,by rw[kS h0];exact gZ h.nd hm,aY h.ok hs,by rw[kS h0];exact Am h.b (by omega)⟩
theorem MC {sp lg o:aa}{i:Int}(h:HE sp i o)(h1:i<=sp.length)(h2:(sp.length:Int)<=i):ND sp lg 0 o:=by
 have e:i.toNat=sp.length:=by omega
 have ei:i=sp.length:=by omega
 have q1:=h.e;have q2:=h.nd;have q3:=h.ok;have q4:=h.b;rw[e]at q1 q2 q4;rw[ei]at q3;exact⟨by rw[q1];simp[iu],by simpa[iu]using q2,q3,bu,by simpa[iu]using q4,by simp[iu]⟩
theorem Tf {sp lg o:aa}{j:Int}(h:ND sp lg j o):HD sp lg j 0 o:=by
 refine⟨by rw[h.e];simp[lz],by simpa[lz]using h.nd,h.oks,h.ok,by simpa[lz]using h.b,h.l⟩
theorem Gd {sp lg o:aa}{j k:Int}(h:HD sp lg j k o):o.length<=sp.length+64*j.toNat+k.toNat:=by
 have l:=h.l;rw[h.e,bU,By,By,lG,om];omega
theorem Pm {sp lg o:aa}{j k:Int}(h:HD sp lg j k o)(h1:sp.length<=1073741824)(h2:j<=1073741824)(h3:k<=64):Rw [tI] o:=by
 have l:=Gd h;have e:=h.e;rw[e,bU]at l;rw[e];exact E2 h.b (by omega)
theorem Mx {sp lg o:aa}{j k:Int}(h:HD sp lg j k o)(h0:0<=j)(h1:j<lg.length)(k0:0<=k)(k1:k<af lg j 1)(hh:hasB o (af lg j 0+k)=true):layOk sp lg=false:=by
 rw[h.e,lh]at hh;exact Dj h0 h1 k0 k1 hh
theorem Pi {p n s k:Int}(h:lgOk p n s=true)(k0:0<=k)(k1:k<n):0<=p/\p+k<=32/\bJ .add .i64 p k=p+k/\1<=n/\n<=32:=by
 have t:=ig h;have b:=gQ t.1;have e:bJ .add .i64 p k=p+k:=bB (by omega);exact⟨by omega,by omega,e,by omega,by omega⟩
theorem Pn {sp lg o:aa}{j k:Int}(h:HD sp lg j k o)(k0:0<=k)(hx:0<=af lg j 0+k/\af lg j 0+k<=64)(hh:hasB o (af lg j 0+k)=false):HD sp lg j (k+1) (o++[[.i (af lg j 0+k)]]):=by
 have e:=h.e;rw[e]at hh;have hm:=sG hh;have q:∀ A:List Int,A++lz (af lg j 0) (k+1).toNat=A++lz (af lg j 0) k.toNat++[af lg j 0+k]:=fun A=>by rw[vu k0,IS]
 exact⟨by rw[q,eF,e];rfl,by rw[q];exact gZ h.nd hm,h.oks,h.ok,by rw[q];exact Am h.b hx,h.l⟩
theorem My {sp lg o:aa}{j k:Int}(h:HD sp lg j k o)(j0:0<=j)(hl:lgOk (af lg j 0) (af lg j 1) (af lg j 2)=true)(k0:0<=k)(k1:k<=af lg j 1)(k2:af lg j 1<=k):ND sp lg (j+1) o:=by
 have t:=ig hl;have b:=gQ t.1;have ek:k.toNat=(af lg j 1).toNat:=by omega
 have q1:=h.e;have q2:=h.nd;have q4:=h.b;have q5:=h.l;rw[ek,IS, <-mo j0]at q1 q2 q4;refine⟨q1,q2,h.oks,aY h.ok hl,q4,?_⟩;rw[mo j0,By,om];omega
theorem Mz {sp lg o:aa}{j:Int}(h:ND sp lg j o)(j1:j<=lg.length)(j2:(lg.length:Int)<=j):layOk sp lg=true:=by
 have e:j.toNat=lg.length:=by omega
 have q:=h.nd;rw[e]at q;exact Dk h.oks (XL _) h.ok j2 q
end Go.V
namespace Go.V
structure K2 (sp:aa)(i:Int)(es:aa):Prop where
 s:lP es (iw sp i.toNat)
 nd:(iw sp i.toNat).Nodup
 ok:upto (KM sp) i
structure NB (sp lg:aa)(j:Int)(es:aa):Prop where
 s:lP es (iw sp sp.length++iu lg j.toNat)
 nd:(iw sp sp.length++iu lg j.toNat).Nodup
 oks:upto (KM sp) sp.length
 ok:upto (Mv lg) j
structure K0 (sp lg:aa)(j k:Int)(es:aa):Prop where
 s:lP es (iw sp sp.length++iu lg j.toNat++lz (af lg j 0) k.toNat)
 nd:(iw sp sp.length++iu lg j.toNat++lz (af lg j 0) k.toNat).Nodup
 oks:upto (KM sp) sp.length
 ok:upto (Mv lg) j
theorem G4 {es:aa}{l:List Int}{n:Int}(h:lP es l)(e:mgbI es n=false):n∉l:=fun m=>by rw[(h.at_ n).2 m]at e;cases e
theorem SK {sp:aa}:K2 sp 0 []:=⟨Cu,Wd,bu⟩
theorem L8 {sp lg es:aa}{i:Int}(h:K2 sp i es)(h0:0<=i)(h1:i<sp.length)(hh:mgbI es (af sp i 0)=true):layOk sp lg=false:=
 Di h0 h1 ((h.s.at_ _).1 hh)
theorem O2 {sp es:aa}{i:Int}(h:K2 sp i es)(h0:0<=i)(hs:spOk (af sp i 0) (af sp i 1) (af sp i 2)=true)(hh:mgbI es (af sp i 0)=false):K2 sp (i+1) (muT es (af sp i 0)):=
 ⟨by rw[kS h0];exact sN h.s,by rw[kS h0];exact gZ h.nd (G4 h.s hh),aY h.ok hs⟩
theorem L9 {sp lg es:aa}{i:Int}(h:K2 sp i es)(h1:i<=sp.length)(h2:(sp.length:Int)<=i):NB sp lg 0 es:=by
 have e:i.toNat=sp.length:=by omega
 have ei:i=sp.length:=by omega
 have q1:=h.s;have q2:=h.nd;have q3:=h.ok;rw[e]at q1 q2;rw[ei]at q3;exact⟨by simpa[iu]using q1,by simpa[iu]using q2,q3,bu⟩
theorem SI {sp lg es:aa}{j:Int}(h:NB sp lg j es):K0 sp lg j 0 es:=
 ⟨by simpa[lz]using h.s,by simpa[lz]using h.nd,h.oks,h.ok⟩
theorem L1 {sp lg es:aa}{j k:Int}(h:K0 sp lg j k es)(h0:0<=j)(h1:j<lg.length)(k0:0<=k)(k1:k<af lg j 1)(hh:mgbI es (af lg j 0+k)=true):layOk sp lg=false:=
 Dj h0 h1 k0 k1 ((h.s.at_ _).1 hh)
theorem O1 {sp lg es:aa}{j k:Int}(h:K0 sp lg j k es)(k0:0<=k)(hh:mgbI es (af lg j 0+k)=false):K0 sp lg j (k+1) (muT es (af lg j 0+k)):=by
 have q:∀ A:List Int,A++lz (af lg j 0) (k+1).toNat=A++lz (af lg j 0) k.toNat++[af lg j 0+k]:=fun A=>by rw[vu k0,IS]
 exact⟨by rw[q];exact sN h.s,by rw[q];exact gZ h.nd (G4 h.s hh),h.oks,h.ok⟩
theorem L2 {sp lg es:aa}{j k:Int}(h:K0 sp lg j k es)(j0:0<=j)(hl:lgOk (af lg j 0) (af lg j 1) (af lg j 2)=true)(k1:k<=af lg j 1)(k2:af lg j 1<=k):NB sp lg (j+1) es:=by
 have ek:k.toNat=(af lg j 1).toNat:=by omega
 have q1:=h.s;have q2:=h.nd;rw[ek,IS, <-mo j0]at q1 q2;exact⟨q1,q2,h.oks,aY h.ok hl⟩
theorem L3 {sp lg es:aa}{j:Int}(h:NB sp lg j es)(j1:j<=lg.length)(j2:(lg.length:Int)<=j):layOk sp lg=true:=by
 have e:j.toNat=lg.length:=by omega
 have q:=h.nd;rw[e]at q;exact Dk h.oks (XL _) h.ok j2 q
theorem PV {b:Bool}(h:(!b)=false):b=true:=by cases b<;>simp_all
theorem PW {b:Bool}(h:(!b)=true):b=false:=by cases b<;>simp_all
end Go.V
namespace Go.V
def zw (sp:aa)(a i:Int):Bool:=decide (0<=saS (af sp i 0) (af sp i 1) (af sp i 2) a)
def AL (lg:aa)(a i:Int):Bool:=lhB (af lg i 0) (af lg i 1) (af lg i 2) a
def mH (sp:aa)(a:Int):Int:=cB (zw sp a) sp.length
def wZ (lg:aa)(a:Int):Int:=cB (AL lg a) lg.length
def IZ (sp:aa)(a i:Int):Int:=saS (af sp i 0) (af sp i 1) (af sp i 2) a
def NS (sp:aa)(a i:Int):Int:=saO (af sp i 0) (af sp i 1) (af sp i 2) a
def RP (lg:aa)(a i:Int):Int:=loI (af lg i 0) (af lg i 1) (af lg i 2) a
def dnK (sp lg:aa)(a:Int):Int:=if 0<=mH sp a then(if hsB (af sp (mH sp a) 2) (IZ sp a (mH sp a))then 1 else 2)else if 0<=wZ lg a then 3 else 0
def dnI (sp lg:aa)(a:Int):Int:=if 0<=mH sp a then mH sp a else if 0<=wZ lg a then wZ lg a else 0
def dnS (sp:aa)(a:Int):Int:=if 0<=mH sp a then IZ sp a (mH sp a)else 0
def dnO (sp lg:aa)(a:Int):Int:=if 0<=mH sp a then NS sp a (mH sp a)else if 0<=wZ lg a then RP lg a (wZ lg a)else 0
def dzK (sp lg:aa)(a:Int):Int:=if layOk sp lg then dnK sp lg a else 0
def dzI (sp lg:aa)(a:Int):Int:=if layOk sp lg then dnI sp lg a else 0
def dzS (sp lg:aa)(a:Int):Int:=if layOk sp lg then dnS sp a else 0
def dzO (sp lg:aa)(a:Int):Int:=if layOk sp lg then dnO sp lg a else 0
theorem QP {sp:aa}{a i:Int}(h:upto (cp (zw sp a)) i)(hs:saS (af sp i 0) (af sp i 1) (af sp i 2) a<0):upto (cp (zw sp a)) (i+1):=
 aY h (by unfold cp zw;rw[decide_eq_false (by omega)];rfl)
theorem Pe {lg:aa}{a i:Int}(h:upto (cp (AL lg a)) i)(hs:lhB (af lg i 0) (af lg i 1) (af lg i 2) a=false):upto (cp (AL lg a)) (i+1):=
 aY h (by unfold cp AL;rw[hs];rfl)
theorem JU {sp:aa}{a i:Int}(h:upto (cp (zw sp a)) i)(h0:0<=i)(h1:i<sp.length)(hs:0<=saS (af sp i 0) (af sp i 1) (af sp i 2) a):mH sp a=i:=
 dD h h0 h1 (decide_eq_true hs)
theorem JV {sp:aa}{a i:Int}(h:upto (cp (zw sp a)) i)(h1:(sp.length:Int)<=i):mH sp a= -1:=dE h h1
theorem Ot {lg:aa}{a i:Int}(h:upto (cp (AL lg a)) i)(h0:0<=i)(h1:i<lg.length)(hs:lhB (af lg i 0) (af lg i 1) (af lg i 2) a=true):wZ lg a=i:=
 dD h h0 h1 hs
theorem Ou {lg:aa}{a i:Int}(h:upto (cp (AL lg a)) i)(h1:(lg.length:Int)<=i):wZ lg a= -1:=dE h h1
def MV (k i s o:Int):List DV:=[DV.agg [.i k,.i i,.i s,.i o]]
def Hu (sp lg:aa)(a:Int):List DV:=MV (dnK sp lg a) (dnI sp lg a) (dnS sp a) (dnO sp lg a)
def RJ (sp lg:aa)(a:Int):List DV:=MV (dzK sp lg a) (dzI sp lg a) (dzS sp lg a) (dzO sp lg a)
theorem UE {sp lg:aa}{a i:Int}(h:upto (cp (zw sp a)) i)(h0:0<=i)(h1:i<sp.length)(hs:0<=saS (af sp i 0) (af sp i 1) (af sp i 2) a)(hh:hsB (af sp i 2) (saS (af sp i 0) (af sp i 1) (af sp i 2) a)=true):
 MV 1 i (saS (af sp i 0) (af sp i 1) (af sp i 2) a) (saO (af sp i 0) (af sp i 1) (af sp i 2) a)=Hu sp lg a:=by
 have e:=JU h h0 h1 hs;unfold Hu dnK dnI dnS dnO IZ NS;rw[e,if_pos h0,if_pos h0,if_pos h0,if_pos h0,hh];rfl
theorem UF {sp lg:aa}{a i:Int}(h:upto (cp (zw sp a)) i)(h0:0<=i)(h1:i<sp.length)(hs:0<=saS (af sp i 0) (af sp i 1) (af sp i 2) a)(hh:hsB (af sp i 2) (saS (af sp i 0) (af sp i 1) (af sp i 2) a)=false):
 MV 2 i (saS (af sp i 0) (af sp i 1) (af sp i 2) a) (saO (af sp i 0) (af sp i 1) (af sp i 2) a)=Hu sp lg a:=by
 have e:=JU h h0 h1 hs;unfold Hu dnK dnI dnS dnO IZ NS;rw[e,if_pos h0,if_pos h0,if_pos h0,if_pos h0,hh];rfl
theorem UG {sp lg:aa}{a i j:Int}(h:upto (cp (zw sp a)) i)(h1:(sp.length:Int)<=i)(g:upto (cp (AL lg a)) j)(j0:0<=j)(j1:j<lg.length)(hh:lhB (af lg j 0) (af lg j 1) (af lg j 2) a=true):
 MV 3 j 0 (loI (af lg j 0) (af lg j 1) (af lg j 2) a)=Hu sp lg a:=by
 have e:=JV h h1;have f:=Ot g j0 j1 hh;have n:¬ (0:Int)<= -1:=by omega
 unfold Hu dnK dnI dnS dnO RP;rw[e,f,if_neg n,if_neg n,if_neg n,if_neg n,if_pos j0,if_pos j0,if_pos j0]
theorem UH {sp lg:aa}{a i j:Int}(h:upto (cp (zw sp a)) i)(h1:(sp.length:Int)<=i)(g:upto (cp (AL lg a)) j)(j1:(lg.length:Int)<=j):
 MV 0 0 0 0=Hu sp lg a:=by
 have e:=JV h h1;have f:=Ou g j1;have n:¬ (0:Int)<= -1:=by omega
 unfold Hu dnK dnI dnS dnO;rw[e,f,if_neg n,if_neg n,if_neg n,if_neg n,if_neg n,if_neg n,if_neg n]
theorem H1 {sp lg:aa}{a:Int}(h:layOk sp lg=true):Hu sp lg a=RJ sp lg a:=by
 unfold RJ Hu dzK dzI dzS dzO;rw[if_pos h,if_pos h,if_pos h,if_pos h]
theorem R6 {sp lg:aa}{a:Int}(h:layOk sp lg=false):MV 0 0 0 0=RJ sp lg a:=by
 have n:¬ layOk sp lg=true:=by rw[h];decide
 unfold RJ dzK dzI dzS dzO;rw[if_neg n,if_neg n,if_neg n,if_neg n]
end Go.V
namespace Go.V
def sd (sp lg:aa)(a:Int):Bool:=decide (dzO sp lg a=0)&&(decide (dzK sp lg a=1)||decide (dzK sp lg a=3))
def Hy (sp lg:aa):Nat->aa
 |0=>[]
 |n+1=>Hy sp lg n++(if sd sp lg n then[[.i n]]else[])
def laL (sp lg:aa):aa:=if layOk sp lg then Hy sp lg 512 else[]
structure HC (sp lg:aa)(i:Int)(o:aa):Prop where
 e:o=Hy sp lg i.toNat
 l:o.length<=i.toNat
 y:0<i->layOk sp lg=true
theorem S8 {sp lg:aa}:HC sp lg 0 []:=⟨rfl,VJ _,fun h=>absurd h (by omega)⟩
theorem FY {sp lg:aa}{i:Int}(h:0<=i):Hy sp lg (i+1).toNat=Hy sp lg i.toNat++(if sd sp lg i then[[.i i]]else[]):=by
 rw[show(i+1).toNat=i.toNat+1 from by omega,Hy,VQ h]
theorem F1 {sp lg o:aa}{i:Int}(h:HC sp lg i o)(h0:0<=i)(hl:layOk sp lg=true)(hv:sd sp lg i=true):HC sp lg (i+1) (o++[[.i i]]):=by
 have e:=h.e;have l:=h.l;refine⟨by rw[FY h0,if_pos hv, <-e],?_,fun _=>hl⟩;rw[By,V9,List.length_nil];omega
theorem Kb {sp lg o:aa}{i:Int}(h:HC sp lg i o)(h0:0<=i)(hl:layOk sp lg=true)(hv:sd sp lg i=false):HC sp lg (i+1) o:=by
 have e:=h.e;have l:=h.l;refine⟨by rw[FY h0,hv, <-e];simp,?_,fun _=>hl⟩;omega
theorem Mt {sp lg o:aa}{i:Int}(h:HC sp lg i o)(h1:i<=512)(h2:512<=i):o=laL sp lg:=by
 have e:i=512:=by omega
 subst e;unfold laL;rw[if_pos (h.y (by omega))];exact h.e
theorem Ms {sp lg o:aa}{i:Int}(h:HC sp lg i o)(h0:0<=i)(hl:layOk sp lg=false):o=laL sp lg:=by
 have z:i=0:=by
  by_cases c:0<i
  ·have:=h.y c;rw[hl]at this;cases this
  ·omega
 subst z;unfold laL;rw[hl];exact h.e
theorem Px {sp lg:aa}{a:Int}(h:dzO sp lg a=0)(k:dzK sp lg a=1):sd sp lg a=true:=by unfold sd;rw[h,k];rfl
theorem Py {sp lg:aa}{a:Int}(h:dzO sp lg a=0)(k:dzK sp lg a=3):sd sp lg a=true:=by unfold sd;rw[h,k];rfl
theorem Pu {sp lg:aa}{a:Int}(h:dzO sp lg a≠0):sd sp lg a=false:=by unfold sd;rw[decide_eq_false h];rfl
theorem Pv {sp lg:aa}{a:Int}(h:dzK sp lg a≠1)(k:dzK sp lg a≠3):sd sp lg a=false:=by unfold sd;rw[decide_eq_false h,decide_eq_false k,Bool.or_false,Ww]
theorem pG {a b:aa}(h:a=b):[DV.one (.s 1 a)]=[DV.one (.s 1 b)]:=by rw[h]
end Go.V