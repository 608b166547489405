/- Plain facts. -/
import Derived.Test.YtcodmgmliopheaaGreatVE
set_option linter.all false
namespace Go.V
theorem gI {n:Int}(h:IntKind.has .i64 n): -9223372036854775808<=n/\n<=9223372036854775807:=h
theorem cp {i:Int}(h0:0<=i)(h1:i<9223372036854775807):bH .add .i64 i 1=i+1:=bA (by omega)
def inR (x a b:Int):Bool:=decide (a<=x)&&decide (x<=b)
theorem bE {x a b:Int}:inR x a b=true↔a<=x/\x<=b:=by simp[inR]
theorem uA {x a b:Int}:inR x a b=false↔x<a\/b<x:=by
 cases h:inR x a b
 ·simp only[true_iff];unfold inR at h;simp only[Bool.and_eq_false_iff,decide_eq_false_iff_not]at h;omega
 ·rw[bE]at h;constructor
  ·intro q;cases q
  ·omega
def ca (p:Int->Bool)(n:Nat):Bool:=(List.range n).all fun j=>p (j:Int)
def upto (p:Int->Bool)(i:Int):Prop:=∀ j:Int,0<=j->j<i->p j=true
theorem bj {p:Int->Bool}:upto p 0:=fun j h0 h1=>absurd h1 (by omega)
theorem aW {p:Int->Bool}{i:Int}(h:upto p i)(hp:p i=true):upto p (i+1):=fun j h0 h1=>by
 by_cases q:j=i
 ·subst q;exact hp
 ·exact h j h0 (by omega)
theorem dn {p:Int->Bool}{n:Nat}:ca p n=true↔upto p n:=by
 simp only[ca,List.all_eq_true,List.mem_range];exact⟨fun h j h0 h1=>by have:=h j.toNat (by omega);rwa [Int.toNat_of_nonneg h0]at this,fun h x hx=>h x (by omega) (by omega)⟩
theorem bp {p:Int->Bool}{n:Nat}{i:Int}(h:upto p i)(hi:(n:Int)<=i):ca p n=true:=dn.2 fun j h0 h1=>h j h0 (by omega)
theorem bK {p:Int->Bool}{n:Nat}{i:Int}(h0:0<=i)(h:i<n)(hp:p i=false):ca p n=false:=by
 cases q:ca p n
 ·rfl
 ·rw[dn.1 q i h0 h]at hp;cases hp
theorem eh {a b:Bool}(h:a=true↔b=true):a=b:=by cases a<;>cases b<;>simp_all
theorem aj {a b:Bool}(h:a=b):[DV.k a]=[DV.k b]:=by rw[h]
def iK (cs us:aa)(i k:Int):Bool:=inR (af (ax cs i 0) k 0) 0 999&&(ma us i 0||decide (af (ax cs i 0) k 0=0))
def fo (cs us:aa)(i:Int):Bool:=decide ((ax cs i 0).length=16)&&ca (iK cs us i) 16
def framesOk (cs us:aa):Bool:=inR cs.length 1 32&&decide (us.length=cs.length)&&ca (fo cs us) cs.length
def lp (es:aa)(fr i:Int):Bool:=inR (af es i 0) 0 2&&decide (af es i 0=0->af es i 1=0)&&decide (0<af es i 0->0<=af es i 1/\af es i 1<fr)
def tableOk (es:aa)(fr:Int):Bool:=ca (lp es fr) es.length&&inR es.length 1 32
def vL (es:aa)(f:Int):Nat->aa
 |0=>[]
 |n+1=>if af es n 0≠0/\af es n 1=f then vL es f n++[[.i n]]else vL es f n
def pagesOn (es:aa)(f:Int):aa:=vL es f es.length
theorem yE {es:aa}{f:Int}:∀ {n:Nat},(vL es f n).length<=n
 |0=>Nat.zero_le _
 | n+1=>by
   have:=yE (es:=es) (f:=f) (n:=n);unfold vL;split
   ·rw[List.length_append];simp;omega
   ·omega
theorem Dh {es:aa}{f:Int}{n:Nat}(h0:af es n 0≠0)(h1:af es n 1=f):vL es f (n+1)=vL es f n++[[.i n]]:=by rw[vL,if_pos ⟨h0,h1⟩]
theorem G4 {es:aa}{f:Int}{n:Nat}(h:af es n 0=0\/af es n 1≠f):vL es f (n+1)=vL es f n:=by rw[vL,if_neg (by rintro⟨a,b⟩;rcases h with q|q;exact a q;exact q b)]
theorem Ja {es:aa}{f i:Int}(hi:0<=i)(h0:af es i 0≠0)(h1:af es i 1=f):vL es f (i+1).toNat=vL es f i.toNat++[[.i i]]:=by
 have e:((i.toNat:Nat):Int)=i:=Int.toNat_of_nonneg hi;rw[show(i+1).toNat=i.toNat+1 from by omega,Dh (by rw[e];exact h0) (by rw[e];exact h1),e]
theorem G3 {es:aa}{f i:Int}(hi:0<=i)(h:af es i 0=0\/af es i 1≠f):vL es f (i+1).toNat=vL es f i.toNat:=by
 have e:((i.toNat:Nat):Int)=i:=Int.toNat_of_nonneg hi;rw[show(i+1).toNat=i.toNat+1 from by omega,G4 (by rw[e];exact h)]
theorem xz {es:aa}{f:Int}:(pagesOn es f).length<=es.length:=yE
def nC (es:aa)(f:Int):Bool:=decide (0<(pagesOn es f).length)
theorem IZ {es:aa}{f:Int}:nC es f=true↔0<(pagesOn es f).length:=by simp[nC]
theorem Mh {cs us:aa}(h:inR cs.length 1 32=false):framesOk cs us=false:=by unfold framesOk;rw[h];rfl
theorem Mi {cs us:aa}(h:us.length≠cs.length):framesOk cs us=false:=by unfold framesOk;rw[decide_eq_false h];simp
theorem Mj {cs us:aa}{i:Int}(h0:0<=i)(h1:i<cs.length)(h:(ax cs i 0).length≠16):framesOk cs us=false:=by
 unfold framesOk;rw[bK h0 h1 (by unfold fo;rw[decide_eq_false h];rfl)];simp
theorem Fp {cs us:aa}{i k:Int}(h0:0<=i)(h1:i<cs.length)(k0:0<=k)(k1:k<16)(h:inR (af (ax cs i 0) k 0) 0 999=false\/ma us i 0=false/\af (ax cs i 0) k 0≠0):framesOk cs us=false:=by
 unfold framesOk;rw[bK h0 h1 (by unfold fo;rw[bK k0 (by simpa using k1) (by unfold iK;rcases h with q|⟨q,q'⟩;rw[q];rfl;rw[q,decide_eq_false q'];simp)];simp)];simp
theorem Mk {cs us:aa}{i:Int}(h1:inR cs.length 1 32=true)(h2:us.length=cs.length)(h:upto (fo cs us) i)(hi:(cs.length:Int)<=i):framesOk cs us=true:=by
 unfold framesOk;rw[h1,decide_eq_true h2,bp h hi];rfl
theorem Pj {cs us:aa}{i k:Int}(hl:(ax cs i 0).length=16)(h:upto (iK cs us i) k)(hk:16<=k):fo cs us i=true:=by
 unfold fo;rw[decide_eq_true hl,bp h (by simpa using hk)];rfl
theorem OO {cs us:aa}{i k:Int}(h:inR (af (ax cs i 0) k 0) 0 999=true)(h':ma us i 0=true\/af (ax cs i 0) k 0=0):iK cs us i k=true:=by
 unfold iK;rw[h];rcases h' with q|q
 ·rw[q];rfl
 ·rw[decide_eq_true q];simp
theorem yI {k:Nat}{a b:aa}(h:a=b):[DV.one (.s k a)]=[DV.one (.s k b)]:=by rw[h]
theorem Sc {es:aa}{n i:Int}(h0:0<=i)(h1:i<es.length)(h:¬ (0<=af es i 0/\af es i 0<=2/\(af es i 0=0->af es i 1=0)/\(0<af es i 0->0<=af es i 1/\af es i 1<n))):tableOk es n=false:=by
 unfold tableOk;rw[bK h0 h1];rfl;cases q:lp es n i
 ·rfl
 ·refine absurd ?_ h;unfold lp at q;simp only[Bool.and_eq_true,decide_eq_true_eq,bE]at q;exact⟨q.1.1.1,q.1.1.2,q.1.2,q.2⟩
theorem R9 {es:aa}{n i:Int}(h:0<=af es i 0/\af es i 0<=2/\(af es i 0=0->af es i 1=0)/\(0<af es i 0->0<=af es i 1/\af es i 1<n)):lp es n i=true:=by
 unfold lp;simp only[Bool.and_eq_true,decide_eq_true_eq,bE];exact⟨⟨⟨h.1,h.2.1⟩,h.2.2.1⟩,h.2.2.2⟩
theorem NU {es:aa}{n i:Int}(h:upto (lp es n) i)(hi:(es.length:Int)<=i):tableOk es n=inR es.length 1 32:=by unfold tableOk;rw[bp h hi];rfl
theorem yR {es:aa}{n:Int}(h:tableOk es n=true):1<=es.length/\es.length<=32:=by
 unfold tableOk at h;simp only[Bool.and_eq_true,bE]at h;omega
theorem yf {cs us:aa}(h:framesOk cs us=true):us.length=cs.length/\1<=cs.length/\cs.length<=32:=by
 unfold framesOk at h;simp only[Bool.and_eq_true,decide_eq_true_eq,bE]at h;omega
end Go.V
namespace Go.V
theorem nP {a n:Int}(h0:0<=a)(h1:a<=9223372036854775807)(hn:0<n):bH .quo .i64 a n=a/n:=by
 show IntKind.wrap .i64 (a.tdiv n)=_;rw[Int.tdiv_eq_ediv_of_nonneg h0];have h2:0<=a/n:=Int.ediv_nonneg h0 (by omega);have h3:a/n<=a:=Int.ediv_le_self _ h0;exact IntWalk.i64_in _ (by omega)
theorem xB {a n:Int}(h0:0<=a):bH .rem .i64 a n=a%n:=Int.tmod_eq_emod_of_nonneg h0
theorem CW {a:aa}{f:Int}:cr .gtr (pagesOn a f).length 0=nC a f:=eh (by rw[IZ];simp only[SS];omega)
theorem JV {a b a' b':Int}(h:a=a')(h':b=b'):[DV.agg [.i a,.i b]]=[DV.agg [.i a',.i b']]:=by rw[h,h']
theorem lm {a b a' b':Int}(h:a=a')(h':b=b'):[DV.j a,DV.j b]=[DV.j a',DV.j b']:=by rw[h,h']
theorem cM {a b:Int}(h:a=b):[DV.j a]=[DV.j b]:=by rw[h]
def peM (es:aa)(p:Int):Int:=if 0<=p/\p<es.length then af es p 0 else 0
def peF (es:aa)(p:Int):Int:=if 0<=p/\p<es.length then af es p 1 else 0
theorem GZ {es:aa}{p:Int}(h:0<=p/\p<es.length):peM es p=af es p 0/\peF es p=af es p 1:=by unfold peM peF;rw[if_pos h,if_pos h];exact⟨rfl,rfl⟩
theorem K0 {es:aa}{p:Int}(h:¬ (0<=p/\p<es.length)):peM es p=0/\peF es p=0:=by unfold peM peF;rw[if_neg h,if_neg h];exact⟨rfl,rfl⟩
def WC (es:aa)(a:Int):Int:=if a<0 then 0 else peM es (a/16)
def WB (es:aa)(a:Int):Int:=if a<0 then 0 else peF es (a/16)
end Go.V
namespace Go.V
theorem eP {fs:List Ty}{es:aa}{i:Int}(h:Rw [.sl fs] es)(h0:0<=i)(h1:i<es.length):es.take (i+1).toNat=es.take i.toNat++[[.s fs.length (ax es i 0)]]:=by
 rw[show(i+1).toNat=i.toNat+1 from by omega,di (d:=[]) (show i.toNat<es.length by omega)];have e:=h.eta h0 h1;rw[e];rfl
theorem kO {fs:List Ty}{es:aa}{i:Int}(h:Rw [.sl fs] es)(h0:0<=i)(h1:i<es.length):ag (ax es i 0)+es.length<=ag es:=by
 have e:=h.eta h0 h1;have h2:=cg (es:=es) (n:=i.toNat) (by omega);have h3:=bF (es:=es) (n:=i.toNat+1);rw[e]at h2;have h4:cz (gH ai es i 0 (zR [Ty.sl fs]))=ag (ax es i 0):=by
  show cz [.s fs.length (ax es i 0)]=_;simp only[cz,dz,ag];omega
 rw[h4]at h2;show _<=es.length+bz es;omega
theorem aP {es:aa}:es.length<=ag es:=Nat.le_add_right _ _
theorem eO {es:aa}{i:Int}(h:(es.length:Int)<=i):es.take i.toNat=es:=List.take_of_length_le (by omega)
def iV (us es:aa)(i:Int):Bool:=ma us i 0==nC es i
def machOk (cs us es:aa):Bool:=framesOk cs us&&tableOk es cs.length&&ca (iV us es) cs.length
theorem C0 {cs us es:aa}(h:framesOk cs us=false\/tableOk es cs.length=false):machOk cs us es=false:=by
 unfold machOk;rcases h with h|h<;>rw[h]<;>simp
theorem M5 {cs us es:aa}(hf:framesOk cs us=true)(h:tableOk es us.length=false):machOk cs us es=false:=by
 rw[(yf hf).1]at h;exact C0 (.inr h)
theorem Gg {cs us es:aa}{i:Int}(h0:0<=i)(h1:i<cs.length)(h:ma us i 0≠nC es i):machOk cs us es=false:=by
 unfold machOk;rw[bK h0 h1 (by unfold iV;simpa using h)];simp
theorem KH {us es:aa}{i:Int}(h:ma us i 0=nC es i):iV us es i=true:=by unfold iV;simpa using h
theorem Gi {cs us es:aa}{i:Int}(h:framesOk cs us=true)(h2:tableOk es us.length=true)(hu:upto (iV us es) i)(hi:(us.length:Int)<=i):machOk cs us es=true:=by
 rw[(yf h).1]at h2 hi;unfold machOk;rw[h,h2,bp hu hi];rfl
def Gj :List aa->Int->List aa
 |[],_=>[]
 |r::rs,k=>ao r k::Gj rs (am [r] k)
theorem cT :∀ {rs:List aa} {k k':Int},am (Gj rs k) k'=am rs k'
 |[],_,_=>rfl
 | r::rs,k,k'=>by
   show am (Gj rs (am [r] k)) (cA (cA r k).1 k').2=am rs (cA r k').2;rw[dd];exact cT
theorem Ge {rs:List aa}(h:∀ r∈rs,(cA r 0).2<=(64*ag r:Nat))(hc:aw rs<=1099511627776):am rs 1<=1152921504606846976:=FQ h (by omega) hc
theorem dC :∀ {rs:List aa} {r:aa} {n:Nat},aw rs<=n->r∈rs->ag r<=n
 | a::rs,r,n,h,hr=>by
   simp only[aw]at h;rcases List.mem_cons.1 hr with rfl|q
   ·omega
   ·exact dC (rs:=rs) (by omega) q
end Go.V
namespace Go.V
theorem wO :∀ {fs:List Ty} {e:ay},bM fs e->e.length=fs.length
 |[],[],_=>rfl
 |[],_::_,h=>h.elim
 |_::_,[],h=>h.elim
 |_::fs,_::e,h=>by simp only[List.length_cons];rw[wO h.2]
theorem Rw.wid {fs:List Ty}{es:aa}(h:Rw fs es){n:Nat}(hn:n<es.length):(es.getD n []).length=fs.length:=wO (h.at hn)
theorem wM :∀ {es:aa} {n:Nat} {e:ay},bz (es.set n e)<=bz es+cz e
 |[],_,_=>by simp[bz]
 |a::es,0,e=>by simp only[List.set_cons_zero,bz];omega
 | a::es,n+1,e=>by
   have:=wM (es:=es) (n:=n) (e:=e);simp only[List.set_cons_succ,bz];omega
theorem mW {es:aa}{n:Nat}{e:ay}:ag (es.set n e)<=ag es+cz e:=by
 unfold ag;rw[List.length_set];have:=wM (es:=es) (n:=n) (e:=e);omega
theorem Ks {t:Ty}{u:aa}{i:Int}(h:Rw [t] u)(h0:0<=i)(h1:i<u.length):∃ rec o',bL (.s 1 u) [(i.toNat,0)]=some (rec,o')/\o'+1<=rec.length:=fa (by omega) (by rw[h.wid (by omega)];exact Nat.le_refl _)
end Go.V
namespace Go.V
def Lp (cs:aa)(fr k v:Int):aa:=cs.set fr.toNat [.s 1 ((ax cs fr 0).set k.toNat [.i v])]
theorem Hi {cs:aa}{fr:Int}(h:Rw [.sl [tI]] cs)(h0:0<=fr)(h1:fr<cs.length):cs.getD fr.toNat []=[.s 1 (ax cs fr 0)]:=h.eta h0 h1
theorem je {cs:aa}{fr:Int}:fO (.s 1 cs) [(fr.toNat,0)]=ax cs fr 0:=nM
theorem LU {cs:aa}{fr:Int}(h:Rw [.sl [tI]] cs)(h0:0<=fr)(h1:fr<cs.length):cs[fr.toNat]?=some [.s 1 (ax cs fr 0)]:=by
 have e:=Hi h h0 h1;rw[List.getD_eq_getElem?_getD,List.getElem?_eq_getElem (by omega)]at e;rw[List.getElem?_eq_getElem (by omega)];simpa using e
theorem IG {cs:aa}{fr:Int}(h:Rw [.sl [tI]] cs)(h0:0<=fr)(h1:fr<cs.length):∃ rec o,bL (.s 1 cs) [(fr.toNat,0)]=some (rec,o)/\o+[L.s 1 []].length<=rec.length/\List.take [L.s 1 []].length (List.drop o rec)=hK ai (.s 1 cs) [(fr.toNat,0)] 0 [L.s 1 []]:=by
 refine⟨[.s 1 (ax cs fr 0)],0,?_,Nat.le_refl _,?_⟩
 ·show(cs[fr.toNat]?).map (·,0)=_;rw[LU h h0 h1];rfl
 ·show[L.s 1 (ax cs fr 0)]=[L.s 1 (fO (.s 1 cs) [(fr.toNat,0)])];rw[je]
theorem Fu {cs:aa}{fr:Int}(h:Rw [.sl [tI]] cs)(h0:0<=fr)(h1:fr<cs.length):∃ es,dH (.s 1 cs) [(fr.toNat,0)]=some (1,es):=by
 refine⟨ax cs fr 0,?_⟩;rw[sd (by omega),Hi h h0 h1];rfl
def V4 (cs us es:aa)(a:Int):Int:=if machOk cs us es=true then WC es a else 0
def WN (cs us es:aa)(a:Int):Int:=if machOk cs us es=true then WB es a else 0
def clsSz (k:Int):Int:=if k=0 then 1 else if k=1 then 2 else if k=2 then 4 else if k=3 then 8 else 0
def clsOf (s:Int):Int:=if s<1 then-1 else if s<=1 then 0 else if s<=2 then 1 else if s<=4 then 2 else if s<=8 then 3 else-1
theorem OS {k:Int}(h:inR k 0 3=false):clsSz k=0:=by rw[uA]at h;unfold clsSz;repeat' split<;>omega
theorem J8 {k:Int}(h:inR k 0 3=true):NN .shl .i64 1 k=clsSz k:=by
 rw[bE]at h;rcases(show k=0\/k=1\/k=2\/k=3 by omega)with rfl|rfl|rfl|rfl<;>decide
theorem Ka {k:Int}(h:inR k 0 3=true):OB .u64 k=k:=by
 rw[bE]at h;rcases(show k=0\/k=1\/k=2\/k=3 by omega)with rfl|rfl|rfl|rfl<;>decide
theorem J9 {k s:Int}(h0:0<=k/\k<=3)(h:clsSz k<s)(hs:1<=s/\s<=8):k+1<=3:=by
 rcases(show k=0\/k=1\/k=2\/k=3 by omega)with rfl|rfl|rfl|rfl<;>simp[clsSz]at h<;>omega
theorem OP {s:Int}(h:s<1\/8<s):clsOf s= -1:=by unfold clsOf;repeat' split<;>omega
theorem L2 {k s:Int}(h0:0<=k/\k<=3)(h:s<=clsSz k)(hs:1<=s/\s<=8)(hp:k=0\/clsSz (k-1)<s):clsOf s=k:=by
 rcases(show k=0\/k=1\/k=2\/k=3 by omega)with rfl|rfl|rfl|rfl<;>simp[clsSz]at h hp<;>unfold clsOf<;>repeat' split<;>omega
end Go.V
namespace Go.V
theorem yi {l:aa}{i:Int}(h:Rw [tI] l)(h0:0<=i)(h1:i<l.length): -9223372036854775808<=af l i 0/\af l i 0<=9223372036854775807:=by
 have e:=h.at (n:=i.toNat) (by omega);rw[h.eta h0 h1]at e;have e':bM [tI] [.i (af l i 0)]:=e;exact e'.1.2
theorem eJ {l:aa}{i:Int}(h0:0<=i):EE (.s 1 l) [(i.toNat,0)]=af l i 0:=by
 rw[BN];unfold af;rw[Int.toNat_natCast]
theorem nq {l:aa}{i:Int}(h:Rw [tI] l)(h0:0<=i)(h1:i<l.length):∃ rec o,bL (.s 1 l) [(i.toNat,0)]=some (rec,o)/\o+[L.v (Value.int .i64 0)].length<=rec.length/\List.take [L.v (Value.int .i64 0)].length (List.drop o rec)=hK ai (.s 1 l) [(i.toNat,0)] 0 [L.v (Value.int .i64 0)]:=by
 have e:l.getD i.toNat []=[L.i (af l i 0)]:=h.eta h0 h1;rw[List.getD_eq_getElem?_getD,List.getElem?_eq_getElem (by omega)]at e;have e1:l[i.toNat]?=some [.i (af l i 0)]:=by
  rw[List.getElem?_eq_getElem (by omega)];exact congrArg some e
 refine⟨[.i (af l i 0)],0,?_,Nat.le_refl _,?_⟩
 ·rw[gp,e1];rfl
 ·show[L.i (af l i 0)]=[L.i (EE (.s 1 l) [(i.toNat,0)])];rw[eJ h0]
end Go.V
namespace Go.V
theorem Co {fs:List Ty}{cs:aa}{fr:Int}(h:Rw [.sl fs] cs)(h0:0<=fr)(h1:fr<cs.length):cs[fr.toNat]?=some [.s fs.length (ax cs fr 0)]:=by
 have e:cs.getD fr.toNat []=[.s fs.length (ax cs fr 0)]:=h.eta h0 h1;rw[List.getD_eq_getElem?_getD,List.getElem?_eq_getElem (by omega)]at e;rw[List.getElem?_eq_getElem (by omega)];simpa using e
theorem Ft {cs:aa}{fr:Int}(h:Rw [.sl [tI,tI]] cs)(h0:0<=fr)(h1:fr<cs.length):∃ rec o,bL (.s 1 cs) [(fr.toNat,0)]=some (rec,o)/\o+[L.s 2 []].length<=rec.length/\List.take [L.s 2 []].length (List.drop o rec)=hK ai (.s 1 cs) [(fr.toNat,0)] 0 [L.s 2 []]:=by
 refine⟨[.s 2 (ax cs fr 0)],0,?_,Nat.le_refl _,?_⟩
 ·show(cs[fr.toNat]?).map (·,0)=_;rw[Co h h0 h1];rfl
 ·show[L.s 2 (ax cs fr 0)]=[L.s 2 (fO (.s 1 cs) [(fr.toNat,0)])];rw[je]
theorem xh {cs:aa}{fr:Int}(h:Rw [.sl [tI,tI]] cs)(h0:0<=fr)(h1:fr<cs.length):∃ es,dH (.s 1 cs) [(fr.toNat,0)]=some (2,es):=by
 refine⟨ax cs fr 0,?_⟩;unfold dH;show(match(cs[fr.toNat]?).map (·,0)with
  | some (rec,o)=>match rec[o]? with
    |some (.s sz es)=>some (sz,es)
    |_=>none
  |none=>none)=_
 rw[Co h h0 h1];rfl
theorem yF {es:aa}{f:Int}:∀ {n:Nat} {e:ay},e∈vL es f n->∃ k:Nat,k<n/\e=[.i k]
 |0,e,h=>by cases h
 | n+1,e,h=>by
   unfold vL at h;split at h
   ·rcases List.mem_append.1 h with q|q
    ·obtain⟨k,hk,e⟩:=yF q;exact⟨k,by omega,e⟩
    ·rw[List.mem_singleton]at q;exact⟨n,by omega,q⟩
   ·obtain⟨k,hk,e⟩:=yF h;exact⟨k,by omega,e⟩
theorem GX {es:aa}{f:Int}(h:es.length<=1099511627776):Rw [tI] (pagesOn es f):=by
 have hl:=xz (es:=es) (f:=f);refine⟨by simp[maxLen];omega,fun e he=>?_⟩;obtain⟨k,hk,rfl⟩:=yF he;exact⟨⟨rfl,(show-9223372036854775808<=(k:Int)/\(k:Int)<=9223372036854775807 by omega)⟩,trivial⟩
end Go.V
namespace Go.V
def ce (p:Int->Bool)(n:Nat):Int:=match(List.range n).find? (fun j:Nat=>p (j:Int))with
 |some j=>(j:Int)
 |none=> -1
def co (p:Int->Bool)(j:Int):Bool:= !p j
theorem lN {p:Int->Bool}{i:Int}(h:p i=false):co p i=true:=by unfold co;rw[h];rfl
theorem ed {p:Int->Bool}{n:Nat}{i:Int}(h:upto (co p) i)(h0:0<=i)(h1:i<n)(h2:p i=true):ce p n=i:=by
 have e:((i.toNat:Nat):Int)=i:=Int.toNat_of_nonneg h0;have:(List.range n).find? (fun j:Nat=>p (j:Int))=some i.toNat:=by
  rw[List.find?_range_eq_some];refine⟨by rw[e];exact h2,List.mem_range.2 (by omega),fun j hj=>?_⟩;exact h j (by omega) (by omega)
 unfold ce;rw[this];exact e
theorem dG {p:Int->Bool}{n:Nat}{i:Int}(h:upto (co p) i)(h1:(n:Int)<=i):ce p n= -1:=by
 have:(List.range n).find? (fun j:Nat=>p (j:Int))=none:=by
  rw[List.find?_range_eq_none];intro j hj;exact h j (by omega) (by omega)
 unfold ce;rw[this]
theorem ng {p:Int->Bool}{n:Nat}:ce p n= -1\/0<=ce p n/\ce p n<n:=by
 unfold ce;split
 ·rename_i j h;rw[List.find?_range_eq_some]at h;have:=List.mem_range.1 h.2.1;omega
 ·exact .inl rfl
def eqB (a b:Int):Bool:=decide (a=b)
theorem CB {a b:Int}(h:a=b):eqB a b=true:=decide_eq_true h
theorem Cz {a b:Int}(h:a≠b):eqB a b=false:=decide_eq_false h
end Go.V
namespace Go.V
def Uu (os:aa)(a j:Int):Bool:=eqB (af os j 1) a
def obI (os:aa)(a:Int):Int:=ce (Uu os a) os.length
def isSp (ss:aa)(p j:Int):Bool:=eqB (af ss j 0) p
def spI (ss:aa)(p:Int):Int:=ce (isSp ss p) ss.length
end Go.V
namespace Go.V
def fpg (es:aa)(p:Int):aa:=if peM es p=0 then[]else pagesOn es (peF es p)
theorem Fo {es:aa}{p:Int}(h:peM es p=0):fpg es p=[]:=by unfold fpg;rw[if_pos h]
theorem CE {es:aa}{p:Int}(h:peM es p≠0):fpg es p=pagesOn es (peF es p):=by unfold fpg;rw[if_neg h]
theorem Mg {es:aa}{p:Int}(h:es.length<=1099511627776):Rw [tI] (fpg es p)/\(fpg es p).length<=1099511627776:=by
 unfold fpg;split
 ·exact⟨Rw.nil,by simp⟩
 ·exact⟨GX h,Nat.le_trans xz h⟩
def Kx (l:aa)(x j:Int):Bool:=eqB x (af l j 0)
def MG (l:aa)(x:Int):Int:=ce (Kx l x) l.length
def hasB (l:aa)(x:Int):Bool:=decide (0<=MG l x)
theorem CF {l:aa}{x:Int}:hasB l x=true↔∃ k:Nat,k<l.length/\af l k 0=x:=by
 unfold hasB MG;rw[decide_eq_true_eq]
 constructor
 ·intro h;unfold ce at h;split at h
  ·rename_i j hj;rw[List.find?_range_eq_some]at hj;refine⟨j,List.mem_range.1 hj.2.1,?_⟩;have:=hj.1;unfold Kx eqB at this;exact(of_decide_eq_true this).symm
  ·omega
 ·rintro⟨k,hk,e⟩;rcases ng (p:=Kx l x) (n:=l.length)with q|q
  ·exfalso;unfold ce at q;split at q
   ·omega
   ·rename_i hn;rw[List.find?_range_eq_none]at hn;have:=hn k hk;unfold Kx eqB at this;rw[e]at this;simp at this
  ·exact q.1
end Go.V
namespace Go.V
def slB (b i:Int):Bool:=decide (0<=b)&&inR i 0 15
def hsB (b i:Int):Bool:=slB b i&&decide (bH .and .i64 (NN .shr .i64 b i) 1=1)
theorem Vm {b i:Int}:slB b i=true↔0<=b/\0<=i/\i<=15:=by simp[slB,inR]
theorem PP {b i:Int}(h:slB b i=false):hsB b i=false:=by unfold hsB;rw[h];rfl
theorem HT {i:Int}(h0:0<=i)(h1:i<=15):OB .u64 i=i:=by
 show IntKind.wrap .u64 i=i;simp only[IntKind.wrap,IntKind.bits,IntKind.signed,Bool.false_and];rw[if_neg (by simp)];omega
def EA (b:Int):Nat->Int
 |0=>0
 |n+1=>if hsB b n=true then bH .add .i64 (EA b n) 1 else EA b n
def ctI (b:Int):Int:=EA b 16
theorem L3 {b i:Int}(h:0<=i)(q:hsB b i=true):EA b (i+1).toNat=bH .add .i64 (EA b i.toNat) 1:=by
 have e:((i.toNat:Nat):Int)=i:=Int.toNat_of_nonneg h;rw[show(i+1).toNat=i.toNat+1 by omega,EA,e,if_pos q]
theorem OU {b i:Int}(h:0<=i)(q:hsB b i=false):EA b (i+1).toNat=EA b i.toNat:=by
 have e:((i.toNat:Nat):Int)=i:=Int.toNat_of_nonneg h;rw[show(i+1).toNat=i.toNat+1 by omega,EA,e,q];rfl
def Ng (ss:aa)(i:Int):ay:=[.i (af ss i 0),.i (af ss i 1),.i (af ss i 2)]
def zu (es ss:aa):Nat->aa
 |0=>[]
 |n+1=>if 0<ctI (af ss n 2)/\(fpg es (af ss n 0)).length=1 then zu es ss n++[Ng ss n]else zu es ss n
def msS (es ss:aa):aa:=zu es ss ss.length
theorem Nh {es ss:aa}{i:Int}(h:0<=i)(q:0<ctI (af ss i 2))(q2:(fpg es (af ss i 0)).length=1):zu es ss (i+1).toNat=zu es ss i.toNat++[Ng ss i]:=by
 have e:((i.toNat:Nat):Int)=i:=Int.toNat_of_nonneg h;rw[show(i+1).toNat=i.toNat+1 by omega,zu,e,if_pos ⟨q,q2⟩]
theorem Qz {es ss:aa}{i:Int}(h:0<=i)(q:¬ (0<ctI (af ss i 2)/\(fpg es (af ss i 0)).length=1)):zu es ss (i+1).toNat=zu es ss i.toNat:=by
 have e:((i.toNat:Nat):Int)=i:=Int.toNat_of_nonneg h;rw[show(i+1).toNat=i.toNat+1 by omega,zu,e,if_neg q]
theorem so {es ss:aa}:∀ {n:Nat},(zu es ss n).length<=n
 |0=>Nat.zero_le _
 | n+1=>by
   have:=so (es:=es) (ss:=ss) (n:=n);unfold zu;split
   ·rw[List.length_append];simp;omega
   ·omega
theorem Gr {es ss:aa}(h:Rw [tI,tI,tI] ss):∀ {n:Nat},n<=ss.length->Rw [tI,tI,tI] (zu es ss n)
 |0,_=>Rw.nil
 | n+1,hn=>by
   have ih:=Gr (es:=es) h (n:=n) (by omega);have hl:=so (es:=es) (ss:=ss) (n:=n);have hm:=h.1;have hc:bM [tI,tI,tI] (Ng ss n):=by
    have e:=h.at (n:=n) (by omega);have e2:=h.eta (i:=n) (by omega) (by omega);rw[Int.toNat_natCast]at e2;rw[e2]at e;exact e
   unfold zu;split
   ·exact ih.append (Rw.one hc) (by simp;omega)
   ·exact ih
theorem C6 {es ss:aa}(h:Rw [tI,tI,tI] ss):Rw [tI,tI,tI] (msS es ss)/\ag (msS es ss)<=ag ss:=by
 have hr:=Gr (es:=es) h (Nat.le_refl ss.length);have e1:=hr.cnt rfl;have e2:=h.cnt rfl;have hl:=so (es:=es) (ss:=ss) (n:=ss.length);exact⟨hr,by unfold msS;omega⟩
end Go.V
namespace Go.V
def Ao (rs:aa)(i:Int):Bool:=decide (0<=af rs i 0)
def qe (rs:aa):Bool:=ca (Ao rs) rs.length&&decide (rs.length<=40)
def kerOk (cs us es:aa)(c:Int)(rs:aa):Bool:=machOk cs us es&&inR c 0 100000&&qe rs
theorem He {rs:aa}{i:Int}(h:0<=af rs i 0):Ao rs i=true:=decide_eq_true h
theorem Hf {cs us es rs:aa}{c i:Int}(h0:0<=i)(h1:i<rs.length)(h:af rs i 0<0):kerOk cs us es c rs=false:=by
 unfold kerOk qe;rw[bK h0 h1 (by unfold Ao;exact decide_eq_false (by omega))];simp
theorem Jh {rs:aa}{i:Int}(h:upto (Ao rs) i)(hi:(rs.length:Int)<=i)(hl:(rs.length:Int)<=40):qe rs=true:=by
 unfold qe;rw[bp h hi,decide_eq_true (by omega)];rfl
theorem Jg {rs:aa}(hl:¬ (rs.length:Int)<=40):qe rs=false:=by
 unfold qe;rw[decide_eq_false (by omega)];simp
theorem IU {cs us es rs:aa}{c:Int}(h1:machOk cs us es=false):kerOk cs us es c rs=false:=by unfold kerOk;rw[h1];rfl
theorem CM {cs us es rs:aa}{c:Int}(h1:inR c 0 100000=false):kerOk cs us es c rs=false:=by unfold kerOk;rw[h1];simp
theorem IV {cs us es rs:aa}{c:Int}(h1:qe rs=false):kerOk cs us es c rs=false:=by unfold kerOk;rw[h1];simp
end Go.V
namespace Go.V
end Go.V
namespace Go.V
theorem tZ {a b:aa}:ag (a++b)=ag a+ag b:=by unfold ag;rw[dp,List.length_append];omega
end Go.V
namespace Go.V
def slN (k:Int):Int:=if inR k 0 3=true then 16/clsSz k else 0
theorem Iv {k:Int}(h:inR k 0 3=true):k=0\/k=1\/k=2\/k=3:=by have:=bE.1 h;omega
theorem gn {k:Int}(h:inR k 0 3=true):1<=clsSz k/\clsSz k<=8/\2<=slN k/\slN k<=16/\slN k*clsSz k=16:=by
 rcases Iv h with rfl|rfl|rfl|rfl<;>decide
theorem Hw {k:Int}(h:inR k 0 3=true):bH .quo .i64 16 (clsSz k)=slN k:=by
 rcases Iv h with rfl|rfl|rfl|rfl<;>decide
theorem Hy {k:Int}(h:inR k 0 3=true):NN .shr .i64 16 (OB .u64 k)=slN k:=by
 rcases Iv h with rfl|rfl|rfl|rfl<;>decide
theorem B0 {k:Int}(h:inR k 0 3=false):slN k=0:=by unfold slN;rw[h];rfl
def bmOk (n b:Int):Bool:=inR n 1 16&&inR b 0 (2^n.toNat-1)
theorem Ht {n:Int}(h:inR n 1 16=true):bH .sub .i64 (NN .shl .i64 1 n) 1=2^n.toNat-1/\bH .sub .i64 (NN .shl .i64 1 (OB .u64 n)) 1=2^n.toNat-1/\0<=OB .u64 n:=by
 have q:=bE.1 h;have:n=1\/n=2\/n=3\/n=4\/n=5\/n=6\/n=7\/n=8\/n=9\/n=10\/n=11\/n=12\/n=13\/n=14\/n=15\/n=16:=by omega
 rcases this with rfl|rfl|rfl|rfl|rfl|rfl|rfl|rfl|rfl|rfl|rfl|rfl|rfl|rfl|rfl|rfl<;>decide
theorem JY {n b:Int}(h:inR n 1 16=false):bmOk n b=false:=by unfold bmOk;rw[h];rfl
theorem EV {n b:Int}(h:inR n 1 16=true):bmOk n b=inR b 0 (2^n.toNat-1):=by unfold bmOk;rw[h];rfl
def spOk (p k b:Int):Bool:=inR p 0 31&&bmOk (slN k) b
theorem EU {k b:Int}(h:inR k 0 3=false):bmOk (slN k) b=false:=by rw[B0 h];rfl
theorem HD {p k b:Int}(h:inR p 0 31=false):spOk p k b=false:=by unfold spOk;rw[h];rfl
theorem NQ {p k b:Int}(h:inR k 0 3=false):spOk p k b=false:=by unfold spOk;rw[EU h,Bool.and_false]
theorem HE {p k b:Int}(h:inR p 0 31=true):spOk p k b=bmOk (slN k) b:=by unfold spOk;rw[h];rfl
theorem ig {p k b:Int}(h:spOk p k b=true):0<=p/\p<=31/\inR k 0 3=true/\bmOk (slN k) b=true:=by
 unfold spOk at h;simp only[Bool.and_eq_true,bE]at h;refine⟨h.1.1,h.1.2,?_,h.2⟩;cases q:inR k 0 3
 ·rw[EU q]at h;exact absurd h.2 (by decide)
 ·rfl
def pfN (s:Int):Int:=if inR s 9 1000=true then(s+15)/16 else 0
theorem Nt {s:Int}(h:inR s 9 1000=true):bH .quo .i64 (bH .sub .i64 (bH .add .i64 s 16) 1) 16=pfN s:=by
 have q:=bE.1 h;have e1:bH .add .i64 s 16=s+16:=bA (by omega);have e2:bH .sub .i64 (s+16) 1=s+16-1:=cB (by omega);unfold pfN;rw[if_pos h,e1,e2,nP (by omega) (by omega) (by omega),show s+16-1=s+15 from by omega]
theorem K1 {s:Int}(h:inR s 9 1000=false):pfN s=0:=by unfold pfN;rw[h];rfl
theorem gJ {s:Int}(h:inR s 9 1000=true):1<=pfN s/\pfN s<=63/\s<=pfN s*16:=by
 have q:=bE.1 h;unfold pfN;rw[if_pos h];omega
theorem G0 {s:Int}:0<pfN s↔inR s 9 1000=true:=by
 constructor
 ·intro h;cases q:inR s 9 1000
  ·rw[K1 q]at h;omega
  ·rfl
 ·intro h;have:=gJ h;omega
def lgOk (p n s:Int):Bool:=inR s 9 1000&&(decide (n=pfN s)&&inR p 0 (32-n))
theorem F3 {p n s:Int}(h:inR s 9 1000=false):lgOk p n s=false:=by unfold lgOk;rw[h];rfl
theorem F7 {p n s:Int}(h:n≠pfN s):lgOk p n s=false:=by unfold lgOk;rw[decide_eq_false h];simp
theorem F8 {p n s:Int}(h:inR s 9 1000=true)(h2:n=pfN s):lgOk p n s=inR p 0 (32-n):=by unfold lgOk;rw[h,decide_eq_true h2];rfl
theorem hY {p n s:Int}(h:lgOk p n s=true):inR s 9 1000=true/\n=pfN s/\0<=p/\p<=32-n:=by
 unfold lgOk at h;simp only[Bool.and_eq_true,decide_eq_true_eq,bE]at h;exact⟨bE.2 h.1,h.2.1,h.2.2⟩
def A2 (p k b a:Int):Bool:=spOk p k b&&inR a (p*16) (p*16+15)
def saS (p k b a:Int):Int:=if A2 p k b a=true then(a-p*16)/clsSz k else-1
def saO (p k b a:Int):Int:=if A2 p k b a=true then(a-p*16)%clsSz k else-1
theorem xD {p k b a:Int}(h:A2 p k b a=false):saS p k b a= -1/\saO p k b a= -1:=by unfold saS saO;rw[h];exact⟨rfl,rfl⟩
theorem vg {p k b a:Int}(h:A2 p k b a=true):saS p k b a=(a-p*16)/clsSz k/\saO p k b a=(a-p*16)%clsSz k:=by unfold saS saO;rw[if_pos h,if_pos h];exact⟨rfl,rfl⟩
theorem Ay {p k b a:Int}:A2 p k b a=true↔spOk p k b=true/\p*16<=a/\a<=p*16+15:=by unfold A2;rw[Bool.and_eq_true,bE]
def LR (p k b s:Int):Bool:=spOk p k b&&inR s 0 (slN k-1)
def aaI (p k b s:Int):Int:=if LR p k b s=true then p*16+s*clsSz k else-1
def lhB (p n s a:Int):Bool:=lgOk p n s&&inR a (p*16) (p*16+s-1)
def loI (p n s a:Int):Int:=if lhB p n s a=true then a-p*16 else-1
theorem Ga {p n s a:Int}(h:lgOk p n s=false):lhB p n s a=false:=by unfold lhB;rw[h];rfl
theorem Bw {p n s a:Int}(h:lgOk p n s=true):lhB p n s a=inR a (p*16) (p*16+s-1):=by unfold lhB;rw[h];rfl
theorem Qf {p n s a:Int}(h:lhB p n s a=false):loI p n s a= -1:=by unfold loI;rw[h];rfl
theorem M0 {p n s a:Int}(h:lhB p n s a=true):loI p n s a=a-p*16:=by unfold loI;rw[if_pos h]
theorem BE {a b:Int}(h: -9223372036854775808<=a*b/\a*b<=9223372036854775807):bH .mul .i64 a b=a*b:=IntWalk.i64_in _ h
theorem Q5 {p:Int}(h:0<=p/\p<=31):bH .mul .i64 p 16=p*16/\bH .sub .i64 (bH .add .i64 (p*16) 16) 1=p*16+15:=by
 have e1:bH .mul .i64 p 16=p*16:=BE (by omega);have e2:bH .add .i64 (p*16) 16=p*16+16:=bA (by omega);have e3:bH .sub .i64 (p*16+16) 1=p*16+16-1:=cB (by omega);rw[e1,e2,e3];omega
theorem Jk {p k b a:Int}(h:spOk p k b=true)(h1:inR a (p*16) (p*16+15)=true):saS p k b a=bH .quo .i64 (bH .sub .i64 a (p*16)) (clsSz k)/\saO p k b a=bH .rem .i64 (bH .sub .i64 a (p*16)) (clsSz k):=by
 have t:=ig h;have q:=bE.1 h1;have c:=gn t.2.2.1;have y:=vg (Ay.2 ⟨h,q⟩);have e:bH .sub .i64 a (p*16)=a-p*16:=cB (by omega);rw[y.1,y.2,e,nP (by omega) (by omega) (by omega),xB (by omega)];exact⟨rfl,rfl⟩
theorem Lb {p k b a:Int}(h:spOk p k b=false):A2 p k b a=false:=by unfold A2;rw[h];rfl
theorem RQ {p k b a:Int}(h:inR a (p*16) (p*16+15)=false):A2 p k b a=false:=by unfold A2;rw[h,Bool.and_false]
theorem Jl {p k b a:Int}(h:spOk p k b=true)(h0:¬ a<0)(h1:bH .quo .i64 a 16=p)(ha:a<=9223372036854775807):saS p k b a=bH .quo .i64 (bH .rem .i64 a 16) (clsSz k)/\saO p k b a=bH .rem .i64 (bH .rem .i64 a 16) (clsSz k):=by
 have t:=ig h;have c:=gn t.2.2.1;rw[nP (by omega) ha (by omega)]at h1;have e:bH .rem .i64 a 16=a%16:=xB (by omega);have y:=vg (Ay.2 ⟨h,show p*16<=a/\a<=p*16+15 by omega⟩);rw[y.1,y.2,e,nP (by omega) (by omega) (by omega),xB (by omega),show a-p*16=a%16 by omega];exact⟨rfl,rfl⟩
theorem Lc {p k b a:Int}(h0:a<0\/bH .quo .i64 a 16≠p)(ha:a<=9223372036854775807):A2 p k b a=false:=by
 cases q:A2 p k b a
 ·rfl
 ·obtain⟨h,h1⟩:=Ay.1 q;have t:=ig h;rcases h0 with h0|h0
  ·omega
  ·rw[nP (by omega) ha (by omega)]at h0;omega
theorem LS {p k b s:Int}(h:spOk p k b=true)(h1:inR s 0 (slN k-1)=true):bH .add .i64 (bH .mul .i64 p 16) (bH .mul .i64 s (clsSz k))=aaI p k b s:=by
 have t:=ig h;have c:=gn t.2.2.1;have q:=bE.1 h1;have m1:0<=s*clsSz k:=Int.mul_nonneg q.1 (by omega);have m2:s*clsSz k<=(slN k-1)*clsSz k:=Int.mul_le_mul_of_nonneg_right q.2 (by omega);have m3:(slN k-1)*clsSz k=16-clsSz k:=by rw[Int.sub_mul,c.2.2.2.2,Int.one_mul]
 have e:bH .mul .i64 s (clsSz k)=s*clsSz k:=BE (by omega);rw[(Q5 ⟨t.1,t.2.1⟩).1,e];unfold aaI LR;rw[h,h1];exact bA (by omega)
theorem JU {p k b s:Int}(h:spOk p k b=false\/inR s 0 (slN k-1)=false):aaI p k b s= -1:=by
 unfold aaI LR;rcases h with h|h
 ·rw[h];rfl
 ·rw[h,Bool.and_false];rfl
theorem F9 {p n s:Int}(h:lgOk p n s=true):bH .mul .i64 p 16=p*16/\bH .add .i64 (bH .mul .i64 p 16) s=p*16+s/\bH .sub .i64 (bH .add .i64 (bH .mul .i64 p 16) s) 1=p*16+s-1:=by
 have t:=hY h;have b:=gJ t.1;have q:=bE.1 t.1;have e1:bH .mul .i64 p 16=p*16:=BE (by omega);have e2:bH .add .i64 (p*16) s=p*16+s:=bA (by omega);have e3:bH .sub .i64 (p*16+s) 1=p*16+s-1:=cB (by omega);rw[e1,e2,e3];exact⟨rfl,rfl,rfl⟩
theorem MW {p n s a:Int}:lhB p n s a=true↔lgOk p n s=true/\p*16<=a/\a<=p*16+s-1:=by unfold lhB;rw[Bool.and_eq_true,bE]
theorem Qe {p n s a:Int}(h:lhB p n s a=true):bH .sub .i64 a (bH .mul .i64 p 16)=loI p n s a:=by
 obtain⟨h1,h2,h3⟩:=MW.1 h;have t:=hY h1;have b:=gJ t.1;have q:=bE.1 t.1;rw[(F9 h1).1,M0 h];exact cB (by omega)
end Go.V
namespace Go.V
def eM (l:List Int):aa:=l.map fun x=>[.i x]
theorem bV {l:List Int}:(eM l).length=l.length:=by unfold eM;rw[List.length_map]
theorem eg {a b:List Int}:eM (a++b)=eM a++eM b:=by unfold eM;rw[List.map_append]
theorem pk {l:List Int}{k:Nat}(h:k<l.length):af (eM l) k 0=l[k]:=by
 have e:(eM l).getD k []=[.i l[k]]:=by
  unfold eM;rw[List.getD_eq_getElem?_getD,List.getElem?_map,List.getElem?_eq_getElem h];rfl
 unfold af;rw[Int.toNat_natCast,e];rfl
theorem kC {l:List Int}{x:Int}:hasB (eM l) x=true↔x∈l:=by
 rw[CF]
 constructor
 ·rintro⟨k,hk,e⟩;rw[bV]at hk;rw[pk hk]at e;rw[<-e];exact List.getElem_mem hk
 ·intro h;obtain⟨k,hk,e⟩:=List.getElem_of_mem h;exact⟨k,by rw[bV];exact hk,by rw[pk hk];exact e⟩
theorem sg {l:List Int}{x:Int}(h:hasB (eM l) x=false):x∉l:=fun m=>by rw[kC.2 m]at h;cases h
theorem pm {l:List Int}(h:∀ x∈l,-9223372036854775808<=x/\x<=9223372036854775807)(hl:l.length<=70368744177664):Rw [tI] (eM l):=by
 refine⟨by rw[bV];unfold maxLen;omega,fun e he=>?_⟩;obtain⟨x,hx,rfl⟩:=List.mem_map.1 he;have q:=h x hx;exact⟨⟨rfl,by show-9223372036854775808<=x/\x<=(9223372036854775807:Int);exact q⟩,trivial⟩
theorem Mm {l:aa}{x i:Int}(h:upto (co (Kx l x)) i)(hi:(l.length:Int)<=i):hasB l x=false:=by
 unfold hasB MG;rw[dG h hi];rfl
def Li (sp:aa)(i:Int):Bool:=spOk (af sp i 0) (af sp i 1) (af sp i 2)
def MV (lg:aa)(i:Int):Bool:=lgOk (af lg i 0) (af lg i 1) (af lg i 2)
def il (sp:aa):Nat->List Int
 |0=>[]
 |n+1=>il sp n++[af sp n 0]
def kH (p:Int):Nat->List Int
 |0=>[]
 |n+1=>kH p n++[p+n]
def ij (lg:aa):Nat->List Int
 |0=>[]
 |n+1=>ij lg n++kH (af lg n 0) (af lg n 1).toNat
def uV (sp lg:aa):List Int:=il sp sp.length++ij lg lg.length
def layOk (sp lg:aa):Bool:=(ca (Li sp) sp.length&&ca (MV lg) lg.length)&&decide (uV sp lg).Nodup
theorem kw {sp:aa}{i:Int}(h:0<=i):il sp (i+1).toNat=il sp i.toNat++[af sp i 0]:=by
 rw[show(i+1).toNat=i.toNat+1 from by omega,il,Int.toNat_of_nonneg h]
theorem lL {lg:aa}{i:Int}(h:0<=i):ij lg (i+1).toNat=ij lg i.toNat++kH (af lg i 0) (af lg i 1).toNat:=by
 rw[show(i+1).toNat=i.toNat+1 from by omega,ij,Int.toNat_of_nonneg h]
theorem uW {p i:Int}(h:0<=i):kH p (i+1).toNat=kH p i.toNat++[p+i]:=by
 rw[show(i+1).toNat=i.toNat+1 from by omega,kH,Int.toNat_of_nonneg h]
theorem kM {sp:aa}:∀ {n:Nat},(il sp n).length=n
 |0=>rfl
 |n+1=>by rw[il,List.length_append,kM];rfl
theorem nN {p:Int}:∀ {n:Nat},(kH p n).length=n
 |0=>rfl
 |n+1=>by rw[kH,List.length_append,nN];rfl
theorem DL {sp:aa}:∀ (m n:Nat),n<=m->∃ r,il sp m=il sp n++r
 |0,n,h=>⟨[],by rw[show n=0 by omega];rfl⟩
 | m+1,n,h=>by
   by_cases c:n=m+1
   ·subst c;exact⟨[],by simp⟩
   ·obtain⟨r,e⟩:=DL (sp:=sp) m n (by omega);exact⟨r++[af sp m 0],by rw[il,e,List.append_assoc]⟩
theorem Dl {p:Int}:∀ (m n:Nat),n<=m->∃ r,kH p m=kH p n++r
 |0,n,h=>⟨[],by rw[show n=0 by omega];rfl⟩
 | m+1,n,h=>by
   by_cases c:n=m+1
   ·subst c;exact⟨[],by simp⟩
   ·obtain⟨r,e⟩:=Dl (p:=p) m n (by omega);exact⟨r++[p+m],by rw[kH,e,List.append_assoc]⟩
theorem CX {lg:aa}:∀ (m n:Nat),n<=m->∃ r,ij lg m=ij lg n++r
 |0,n,h=>⟨[],by rw[show n=0 by omega];rfl⟩
 | m+1,n,h=>by
   by_cases c:n=m+1
   ·subst c;exact⟨[],by simp⟩
   ·obtain⟨r,e⟩:=CX (lg:=lg) m n (by omega);exact⟨r++kH (af lg m 0) (af lg m 1).toNat,by rw[ij,e,List.append_assoc]⟩
theorem dup {a b l:List Int}{x:Int}(h:l=a++x::b)(hm:x∈a):¬ l.Nodup:=by
 rw[h,List.nodup_append];rintro⟨_,_,q⟩;exact q x hm x (by simp) rfl
theorem gQ {a:List Int}{x:Int}(h:a.Nodup)(hx:x∉a):(a++[x]).Nodup:=by
 rw[List.nodup_append];exact⟨h,by simp,fun y hy z hz e=>by simp at hz;subst hz;subst e;exact hx hy⟩
theorem CO {sp lg:aa}{i:Int}(h0:0<=i)(h1:i<sp.length)(h:spOk (af sp i 0) (af sp i 1) (af sp i 2)=false):layOk sp lg=false:=by
 unfold layOk;rw[bK h0 h1 h];rfl
theorem CP {sp lg:aa}{i:Int}(h0:0<=i)(h1:i<lg.length)(h:lgOk (af lg i 0) (af lg i 1) (af lg i 2)=false):layOk sp lg=false:=by
 unfold layOk;rw[bK (p:=MV lg) h0 h1 h,Bool.and_false];rfl
theorem CQ {sp lg:aa}{i:Int}(h0:0<=i)(h1:i<sp.length)(h:af sp i 0∈il sp i.toNat):layOk sp lg=false:=by
 obtain⟨r,e⟩:=DL (sp:=sp) sp.length (i+1).toNat (by omega);rw[kw h0,List.append_assoc]at e;have:¬ (uV sp lg).Nodup:=dup (a:=il sp i.toNat) (b:=r++ij lg lg.length) (x:=af sp i 0) (by unfold uV;rw[e,List.append_assoc];rfl) h;unfold layOk;rw[decide_eq_false this,Bool.and_false]
theorem CR {sp lg:aa}{i k:Int}(h0:0<=i)(h1:i<lg.length)(k0:0<=k)(k1:k<af lg i 1)(h:af lg i 0+k∈il sp sp.length++ij lg i.toNat++kH (af lg i 0) k.toNat):layOk sp lg=false:=by
 obtain⟨r,e⟩:=CX (lg:=lg) lg.length (i+1).toNat (by omega);obtain⟨r2,e2⟩:=Dl (p:=af lg i 0) (af lg i 1).toNat (k+1).toNat (by omega);rw[lL h0,e2,uW k0]at e;have:¬ (uV sp lg).Nodup:=dup (a:=il sp sp.length++ij lg i.toNat++kH (af lg i 0) k.toNat) (b:=r2++r) (x:=af lg i 0+k) (by unfold uV;rw[e];simp only[List.append_assoc];rfl) h;unfold layOk;rw[decide_eq_false this,Bool.and_false]
theorem CS {sp lg:aa}{i j:Int}(h:upto (Li sp) i)(hi:(sp.length:Int)<=i)(h2:upto (MV lg) j)(hj:(lg.length:Int)<=j)(hn:(uV sp lg).Nodup):layOk sp lg=true:=by
 unfold layOk;rw[bp h hi,bp h2 hj,decide_eq_true hn];rfl
theorem FW {sp lg:aa}(h:layOk sp lg=true):(∀ i:Int,0<=i->i<sp.length->spOk (af sp i 0) (af sp i 1) (af sp i 2)=true)/\(∀ i:Int,0<=i->i<lg.length->lgOk (af lg i 0) (af lg i 1) (af lg i 2)=true)/\(uV sp lg).Nodup:=by
 unfold layOk at h;simp only[Bool.and_eq_true,decide_eq_true_eq]at h;exact⟨dn.1 h.1.1,dn.1 h.1.2,h.2⟩
def Oo (es:aa):Prop:=∀ e∈es,∃ (k:Int) (b:Bool),e=[.i k,.v (.bool b)]
theorem uI {k:Int}{b:Bool}{es:aa}{n:Int}:cU ([.i k,.v (.bool b)]::es) n=if k=n then some (0,.bool b)else(cU es n).map fun p=>(p.1+1,p.2):=rfl
theorem ke {k:Int}{b:Bool}{es:aa}{n:Int}:mgbI ([.i k,.v (.bool b)]::es) n=if k=n then b else mgbI es n:=by
 unfold mgbI;rw[uI];by_cases c:k=n
 ·rw[if_pos c,if_pos c]
 ·rw[if_neg c,if_neg c];cases cU es n with
  |none=>rfl
  |some p=>obtain⟨j,v⟩:=p;cases v<;>rfl
theorem C7 {k:Int}{b x:Bool}{es:aa}{n:Int}:iH ([.i k,.v (.bool b)]::es) n (.v (.bool x))=if k=n then[.i n,.v (.bool x)]::es else[.i k,.v (.bool b)]::iH es n (.v (.bool x)):=by
 unfold iH;rw[uI];by_cases c:k=n
 ·rw[if_pos c,if_pos c];rfl
 ·rw[if_neg c,if_neg c];cases cU es n with
  |none=>rfl
  |some p=>rfl
theorem VQ {x:Bool}{n:Int}:∀ {es:aa},Oo es->Oo (iH es n (.v (.bool x)))/\∀ m,mgbI (iH es n (.v (.bool x))) m=if m=n then x else mgbI es m
 | [],_=>by
   refine⟨fun e he=>?_,fun m=>?_⟩
   ·have:e=[.i n,.v (.bool x)]:=by simpa[iH,cU]using he
    exact⟨n,x,this⟩
   ·show mgbI [[.i n,.v (.bool x)]] m=_;rw[ke];by_cases c:m=n
    ·rw[if_pos c.symm,if_pos c]
    ·rw[if_neg (fun e=>c e.symm),if_neg c]
 | e::es,h=>by
   obtain⟨k,b,rfl⟩:=h e (by simp);have h':Oo es:=fun e he=>h e (by simp[he])
   obtain⟨a1,a2⟩:=VQ (x:=x) (n:=n) h';rw[C7];by_cases c:k=n
   ·rw[if_pos c];refine⟨fun e he=>?_,fun m=>?_⟩
    ·rcases List.mem_cons.1 he with rfl|he
     ·exact⟨n,x,rfl⟩
     ·exact h' e he
    ·rw[ke,ke];by_cases d:m=n
     ·rw[if_pos d.symm,if_pos d]
     ·rw[if_neg (fun e=>d e.symm),if_neg d,if_neg (fun e=>d (by rw[<-e,c]))]
   ·rw[if_neg c];refine⟨fun e he=>?_,fun m=>?_⟩
    ·rcases List.mem_cons.1 he with rfl|he
     ·exact⟨k,b,rfl⟩
     ·exact a1 e he
    ·rw[ke,ke,a2 m];by_cases d:k=m
     ·rw[if_pos d,if_pos d,if_neg (fun e=>c (d.trans e))]
     ·rw[if_neg d,if_neg d]
def muT (es:aa)(n:Int):aa:=iH es n (.v (.bool true))
structure kW (es:aa)(l:List Int):Prop where
 wf:Oo es
 at_:∀ m,mgbI es m=true↔m∈l
theorem BW :kW [] []:=⟨(fun e he=>by cases he),fun m=>by simp[mgbI,cU]⟩
theorem sx {es:aa}{l:List Int}{n:Int}(h:kW es l):kW (iH es n (.v (.bool true))) (l++[n]):=by
 have q:=VQ (x:=true) (n:=n) h.wf;refine⟨q.1,fun m=>?_⟩;rw[q.2 m];by_cases c:m=n
 ·rw[if_pos c];simp[c]
 ·rw[if_neg c,h.at_ m];simp[c]
def one (x:Int):aa:=[[.i x]]
structure H6 (sp:aa)(i:Int)(o:aa):Prop where
 e:o=eM (il sp i.toNat)
 nd:(il sp i.toNat).Nodup
 ok:upto (Li sp) i
 b:∀ x∈il sp i.toNat,0<=x/\x<=64
structure Oh (sp lg:aa)(j:Int)(o:aa):Prop where
 e:o=eM (il sp sp.length++ij lg j.toNat)
 nd:(il sp sp.length++ij lg j.toNat).Nodup
 oks:upto (Li sp) sp.length
 ok:upto (MV lg) j
 b:∀ x∈il sp sp.length++ij lg j.toNat,0<=x/\x<=64
 l:(ij lg j.toNat).length<=64*j.toNat
structure H5 (sp lg:aa)(j k:Int)(o:aa):Prop where
 e:o=eM (il sp sp.length++ij lg j.toNat++kH (af lg j 0) k.toNat)
 nd:(il sp sp.length++ij lg j.toNat++kH (af lg j 0) k.toNat).Nodup
 oks:upto (Li sp) sp.length
 ok:upto (MV lg) j
 b:∀ x∈il sp sp.length++ij lg j.toNat++kH (af lg j 0) k.toNat,0<=x/\x<=64
 l:(ij lg j.toNat).length<=64*j.toNat
theorem EW {l:List Int}(h:∀ x∈l,0<=x/\x<=64)(hl:l.length<=70368744177664):Rw [tI] (eM l):=pm (fun x hx=>by have:=h x hx;omega) hl
theorem zG {l:List Int}{x:Int}(h:∀ x∈l,0<=x/\x<=64)(hx:0<=x/\x<=64):∀ y∈l++[x],0<=y/\y<=64:=by
 intro y hy;rcases List.mem_append.1 hy with q|q
 ·exact h y q
 ·simp at q;rw[q];exact hx
theorem UD {sp:aa}:H6 sp 0 []:=⟨rfl,List.nodup_nil,bj,fun x hx=>by cases hx⟩
theorem Gc {sp o:aa}{i:Int}(h:H6 sp i o):o.length=i.toNat:=by rw[h.e,bV,kM]
theorem Qg {sp o:aa}{i:Int}(h:H6 sp i o)(hi:i<=1073741824):Rw [tI] o:=by
 have l:=Gc h;have e:=h.e;rw[e,bV]at l;rw[e];exact EW h.b (by omega)
theorem M1 {sp lg o:aa}{i:Int}(h:H6 sp i o)(h0:0<=i)(h1:i<sp.length)(hh:hasB o (af sp i 0)=true):layOk sp lg=false:=by
 rw[h.e,kC]at hh;exact CQ h0 h1 hh
theorem Qh {sp o:aa}{i:Int}(h:H6 sp i o)(h0:0<=i)(hs:spOk (af sp i 0) (af sp i 1) (af sp i 2)=true)(hh:hasB o (af sp i 0)=false):H6 sp (i+1) (o++[[.i (af sp i 0)]]):=by
 have t:=ig hs;have e:=h.e;rw[e]at hh;have hm:=sg hh;exact⟨by rw[kw h0,eg,e];rfl,by rw[kw h0];exact gQ h.nd hm,aW h.ok hs,by rw[kw h0];exact zG h.b (by omega)⟩
theorem M2 {sp lg o:aa}{i:Int}(h:H6 sp i o)(h1:i<=sp.length)(h2:(sp.length:Int)<=i):Oh sp lg 0 o:=by
 have e:i.toNat=sp.length:=by omega
 have ei:i=sp.length:=by omega
 have q1:=h.e;have q2:=h.nd;have q3:=h.ok;have q4:=h.b;rw[e]at q1 q2 q4;rw[ei]at q3;exact⟨by rw[q1];simp[ij],by simpa[ij]using q2,q3,bj,by simpa[ij]using q4,by simp[ij]⟩
theorem UC {sp lg o:aa}{j:Int}(h:Oh sp lg j o):H5 sp lg j 0 o:=by
 refine⟨by rw[h.e];simp[kH],by simpa[kH]using h.nd,h.oks,h.ok,by simpa[kH]using h.b,h.l⟩
theorem Gb {sp lg o:aa}{j k:Int}(h:H5 sp lg j k o):o.length<=sp.length+64*j.toNat+k.toNat:=by
 have l:=h.l;rw[h.e,bV,List.length_append,List.length_append,kM,nN];omega
theorem Qc {sp lg o:aa}{j k:Int}(h:H5 sp lg j k o)(h1:sp.length<=1073741824)(h2:j<=1073741824)(h3:k<=64):Rw [tI] o:=by
 have l:=Gb h;have e:=h.e;rw[e,bV]at l;rw[e];exact EW h.b (by omega)
theorem MX {sp lg o:aa}{j k:Int}(h:H5 sp lg j k o)(h0:0<=j)(h1:j<lg.length)(k0:0<=k)(k1:k<af lg j 1)(hh:hasB o (af lg j 0+k)=true):layOk sp lg=false:=by
 rw[h.e,kC]at hh;exact CR h0 h1 k0 k1 hh
theorem Qa {p n s k:Int}(h:lgOk p n s=true)(k0:0<=k)(k1:k<n):0<=p/\p+k<=32/\bH .add .i64 p k=p+k/\1<=n/\n<=32:=by
 have t:=hY h;have b:=gJ t.1;have e:bH .add .i64 p k=p+k:=bA (by omega);exact⟨by omega,by omega,e,by omega,by omega⟩
theorem Qd {sp lg o:aa}{j k:Int}(h:H5 sp lg j k o)(k0:0<=k)(hx:0<=af lg j 0+k/\af lg j 0+k<=64)(hh:hasB o (af lg j 0+k)=false):H5 sp lg j (k+1) (o++[[.i (af lg j 0+k)]]):=by
 have e:=h.e;rw[e]at hh;have hm:=sg hh;have q:∀ A:List Int,A++kH (af lg j 0) (k+1).toNat=A++kH (af lg j 0) k.toNat++[af lg j 0+k]:=fun A=>by rw[uW k0,List.append_assoc]
 exact⟨by rw[q,eg,e];rfl,by rw[q];exact gQ h.nd hm,h.oks,h.ok,by rw[q];exact zG h.b hx,h.l⟩
theorem MY {sp lg o:aa}{j k:Int}(h:H5 sp lg j k o)(j0:0<=j)(hl:lgOk (af lg j 0) (af lg j 1) (af lg j 2)=true)(k0:0<=k)(k1:k<=af lg j 1)(k2:af lg j 1<=k):Oh sp lg (j+1) o:=by
 have t:=hY hl;have b:=gJ t.1;have ek:k.toNat=(af lg j 1).toNat:=by omega
 have q1:=h.e;have q2:=h.nd;have q4:=h.b;have q5:=h.l;rw[ek,List.append_assoc, <-lL j0]at q1 q2 q4;refine⟨q1,q2,h.oks,aW h.ok hl,q4,?_⟩;rw[lL j0,List.length_append,nN];omega
theorem MZ {sp lg o:aa}{j:Int}(h:Oh sp lg j o)(j1:j<=lg.length)(j2:(lg.length:Int)<=j):layOk sp lg=true:=by
 have e:j.toNat=lg.length:=by omega
 have q:=h.nd;rw[e]at q;exact CS h.oks (Int.le_refl _) h.ok j2 q
end Go.V
namespace Go.V
structure LF (sp:aa)(i:Int)(es:aa):Prop where
 s:kW es (il sp i.toNat)
 nd:(il sp i.toNat).Nodup
 ok:upto (Li sp) i
structure Og (sp lg:aa)(j:Int)(es:aa):Prop where
 s:kW es (il sp sp.length++ij lg j.toNat)
 nd:(il sp sp.length++ij lg j.toNat).Nodup
 oks:upto (Li sp) sp.length
 ok:upto (MV lg) j
structure LC (sp lg:aa)(j k:Int)(es:aa):Prop where
 s:kW es (il sp sp.length++ij lg j.toNat++kH (af lg j 0) k.toNat)
 nd:(il sp sp.length++ij lg j.toNat++kH (af lg j 0) k.toNat).Nodup
 oks:upto (Li sp) sp.length
 ok:upto (MV lg) j
theorem Hn {es:aa}{l:List Int}{n:Int}(h:kW es l)(e:mgbI es n=false):n∉l:=fun m=>by rw[(h.at_ n).2 m]at e;cases e
theorem Uv {sp:aa}:LF sp 0 []:=⟨BW,List.nodup_nil,bj⟩
theorem MP {sp lg es:aa}{i:Int}(h:LF sp i es)(h0:0<=i)(h1:i<sp.length)(hh:mgbI es (af sp i 0)=true):layOk sp lg=false:=
 CQ h0 h1 ((h.s.at_ _).1 hh)
theorem P5 {sp es:aa}{i:Int}(h:LF sp i es)(h0:0<=i)(hs:spOk (af sp i 0) (af sp i 1) (af sp i 2)=true)(hh:mgbI es (af sp i 0)=false):LF sp (i+1) (muT es (af sp i 0)):=
 ⟨by rw[kw h0];exact sx h.s,by rw[kw h0];exact gQ h.nd (Hn h.s hh),aW h.ok hs⟩
theorem MQ {sp lg es:aa}{i:Int}(h:LF sp i es)(h1:i<=sp.length)(h2:(sp.length:Int)<=i):Og sp lg 0 es:=by
 have e:i.toNat=sp.length:=by omega
 have ei:i=sp.length:=by omega
 have q1:=h.s;have q2:=h.nd;have q3:=h.ok;rw[e]at q1 q2;rw[ei]at q3;exact⟨by simpa[ij]using q1,by simpa[ij]using q2,q3,bj⟩
theorem Us {sp lg es:aa}{j:Int}(h:Og sp lg j es):LC sp lg j 0 es:=
 ⟨by simpa[kH]using h.s,by simpa[kH]using h.nd,h.oks,h.ok⟩
theorem MH {sp lg es:aa}{j k:Int}(h:LC sp lg j k es)(h0:0<=j)(h1:j<lg.length)(k0:0<=k)(k1:k<af lg j 1)(hh:mgbI es (af lg j 0+k)=true):layOk sp lg=false:=
 CR h0 h1 k0 k1 ((h.s.at_ _).1 hh)
theorem P3 {sp lg es:aa}{j k:Int}(h:LC sp lg j k es)(k0:0<=k)(hh:mgbI es (af lg j 0+k)=false):LC sp lg j (k+1) (muT es (af lg j 0+k)):=by
 have q:∀ A:List Int,A++kH (af lg j 0) (k+1).toNat=A++kH (af lg j 0) k.toNat++[af lg j 0+k]:=fun A=>by rw[uW k0,List.append_assoc]
 exact⟨by rw[q];exact sx h.s,by rw[q];exact gQ h.nd (Hn h.s hh),h.oks,h.ok⟩
theorem MI {sp lg es:aa}{j k:Int}(h:LC sp lg j k es)(j0:0<=j)(hl:lgOk (af lg j 0) (af lg j 1) (af lg j 2)=true)(k1:k<=af lg j 1)(k2:af lg j 1<=k):Og sp lg (j+1) es:=by
 have ek:k.toNat=(af lg j 1).toNat:=by omega
 have q1:=h.s;have q2:=h.nd;rw[ek,List.append_assoc, <-lL j0]at q1 q2;exact⟨q1,q2,h.oks,aW h.ok hl⟩
theorem MJ {sp lg es:aa}{j:Int}(h:Og sp lg j es)(j1:j<=lg.length)(j2:(lg.length:Int)<=j):layOk sp lg=true:=by
 have e:j.toNat=lg.length:=by omega
 have q:=h.nd;rw[e]at q;exact CS h.oks (Int.le_refl _) h.ok j2 q
theorem QN {b:Bool}(h:(!b)=false):b=true:=by cases b<;>simp_all
theorem QO {b:Bool}(h:(!b)=true):b=false:=by cases b<;>simp_all
end Go.V
namespace Go.V
def yK (sp:aa)(a i:Int):Bool:=decide (0<=saS (af sp i 0) (af sp i 1) (af sp i 2) a)
def Af (lg:aa)(a i:Int):Bool:=lhB (af lg i 0) (af lg i 1) (af lg i 2) a
def iQ (sp:aa)(a:Int):Int:=ce (yK sp a) sp.length
def wy (lg:aa)(a:Int):Int:=ce (Af lg a) lg.length
def H0 (sp:aa)(a i:Int):Int:=saS (af sp i 0) (af sp i 1) (af sp i 2) a
def Ow (sp:aa)(a i:Int):Int:=saO (af sp i 0) (af sp i 1) (af sp i 2) a
def TA (lg:aa)(a i:Int):Int:=loI (af lg i 0) (af lg i 1) (af lg i 2) a
def dnK (sp lg:aa)(a:Int):Int:=if 0<=iQ sp a then(if hsB (af sp (iQ sp a) 2) (H0 sp a (iQ sp a))then 1 else 2)else if 0<=wy lg a then 3 else 0
def dnI (sp lg:aa)(a:Int):Int:=if 0<=iQ sp a then iQ sp a else if 0<=wy lg a then wy lg a else 0
def dnS (sp:aa)(a:Int):Int:=if 0<=iQ sp a then H0 sp a (iQ sp a)else 0
def dnO (sp lg:aa)(a:Int):Int:=if 0<=iQ sp a then Ow sp a (iQ sp a)else if 0<=wy lg a then TA lg a (wy lg a)else 0
def dzK (sp lg:aa)(a:Int):Int:=if layOk sp lg then dnK sp lg a else 0
def dzI (sp lg:aa)(a:Int):Int:=if layOk sp lg then dnI sp lg a else 0
def dzS (sp lg:aa)(a:Int):Int:=if layOk sp lg then dnS sp a else 0
def dzO (sp lg:aa)(a:Int):Int:=if layOk sp lg then dnO sp lg a else 0
theorem RP {sp:aa}{a i:Int}(h:upto (co (yK sp a)) i)(hs:saS (af sp i 0) (af sp i 1) (af sp i 2) a<0):upto (co (yK sp a)) (i+1):=
 aW h (by unfold co yK;rw[decide_eq_false (by omega)];rfl)
theorem P6 {lg:aa}{a i:Int}(h:upto (co (Af lg a)) i)(hs:lhB (af lg i 0) (af lg i 1) (af lg i 2) a=false):upto (co (Af lg a)) (i+1):=
 aW h (by unfold co Af;rw[hs];rfl)
theorem Ko {sp:aa}{a i:Int}(h:upto (co (yK sp a)) i)(h0:0<=i)(h1:i<sp.length)(hs:0<=saS (af sp i 0) (af sp i 1) (af sp i 2) a):iQ sp a=i:=
 ed h h0 h1 (decide_eq_true hs)
theorem Kp {sp:aa}{a i:Int}(h:upto (co (yK sp a)) i)(h1:(sp.length:Int)<=i):iQ sp a= -1:=dG h h1
theorem Ph {lg:aa}{a i:Int}(h:upto (co (Af lg a)) i)(h0:0<=i)(h1:i<lg.length)(hs:lhB (af lg i 0) (af lg i 1) (af lg i 2) a=true):wy lg a=i:=
 ed h h0 h1 hs
theorem Pi {lg:aa}{a i:Int}(h:upto (co (Af lg a)) i)(h1:(lg.length:Int)<=i):wy lg a= -1:=dG h h1
def Nq (k i s o:Int):List DV:=[DV.agg [.i k,.i i,.i s,.i o]]
def HW (sp lg:aa)(a:Int):List DV:=Nq (dnK sp lg a) (dnI sp lg a) (dnS sp a) (dnO sp lg a)
def Tx (sp lg:aa)(a:Int):List DV:=Nq (dzK sp lg a) (dzI sp lg a) (dzS sp lg a) (dzO sp lg a)
theorem VW {sp lg:aa}{a i:Int}(h:upto (co (yK sp a)) i)(h0:0<=i)(h1:i<sp.length)(hs:0<=saS (af sp i 0) (af sp i 1) (af sp i 2) a)(hh:hsB (af sp i 2) (saS (af sp i 0) (af sp i 1) (af sp i 2) a)=true):
 Nq 1 i (saS (af sp i 0) (af sp i 1) (af sp i 2) a) (saO (af sp i 0) (af sp i 1) (af sp i 2) a)=HW sp lg a:=by
 have e:=Ko h h0 h1 hs;unfold HW dnK dnI dnS dnO H0 Ow;rw[e,if_pos h0,if_pos h0,if_pos h0,if_pos h0,hh];rfl
theorem VX {sp lg:aa}{a i:Int}(h:upto (co (yK sp a)) i)(h0:0<=i)(h1:i<sp.length)(hs:0<=saS (af sp i 0) (af sp i 1) (af sp i 2) a)(hh:hsB (af sp i 2) (saS (af sp i 0) (af sp i 1) (af sp i 2) a)=false):
 Nq 2 i (saS (af sp i 0) (af sp i 1) (af sp i 2) a) (saO (af sp i 0) (af sp i 1) (af sp i 2) a)=HW sp lg a:=by
 have e:=Ko h h0 h1 hs;unfold HW dnK dnI dnS dnO H0 Ow;rw[e,if_pos h0,if_pos h0,if_pos h0,if_pos h0,hh];rfl
theorem VY {sp lg:aa}{a i j:Int}(h:upto (co (yK sp a)) i)(h1:(sp.length:Int)<=i)(g:upto (co (Af lg a)) j)(j0:0<=j)(j1:j<lg.length)(hh:lhB (af lg j 0) (af lg j 1) (af lg j 2) a=true):
 Nq 3 j 0 (loI (af lg j 0) (af lg j 1) (af lg j 2) a)=HW sp lg a:=by
 have e:=Kp h h1;have f:=Ph g j0 j1 hh;have n:¬ (0:Int)<= -1:=by omega
 unfold HW dnK dnI dnS dnO TA;rw[e,f,if_neg n,if_neg n,if_neg n,if_neg n,if_pos j0,if_pos j0,if_pos j0]
theorem VZ {sp lg:aa}{a i j:Int}(h:upto (co (yK sp a)) i)(h1:(sp.length:Int)<=i)(g:upto (co (Af lg a)) j)(j1:(lg.length:Int)<=j):
 Nq 0 0 0 0=HW sp lg a:=by
 have e:=Kp h h1;have f:=Pi g j1;have n:¬ (0:Int)<= -1:=by omega
 unfold HW dnK dnI dnS dnO;rw[e,f,if_neg n,if_neg n,if_neg n,if_neg n,if_neg n,if_neg n,if_neg n]
theorem Iy {sp lg:aa}{a:Int}(h:layOk sp lg=true):HW sp lg a=Tx sp lg a:=by
 unfold Tx HW dzK dzI dzS dzO;rw[if_pos h,if_pos h,if_pos h,if_pos h]
theorem TW {sp lg:aa}{a:Int}(h:layOk sp lg=false):Nq 0 0 0 0=Tx sp lg a:=by
 have n:¬ layOk sp lg=true:=by rw[h];decide
 unfold Tx dzK dzI dzS dzO;rw[if_neg n,if_neg n,if_neg n,if_neg n]
end Go.V
namespace Go.V
def rJ (sp lg:aa)(a:Int):Bool:=decide (dzO sp lg a=0)&&(decide (dzK sp lg a=1)||decide (dzK sp lg a=3))
def HY (sp lg:aa):Nat->aa
 |0=>[]
 |n+1=>HY sp lg n++(if rJ sp lg n then[[.i n]]else[])
def laL (sp lg:aa):aa:=if layOk sp lg then HY sp lg 512 else[]
structure H4 (sp lg:aa)(i:Int)(o:aa):Prop where
 e:o=HY sp lg i.toNat
 l:o.length<=i.toNat
 y:0<i->layOk sp lg=true
theorem Uy {sp lg:aa}:H4 sp lg 0 []:=⟨rfl,Nat.le_refl _,fun h=>absurd h (by omega)⟩
theorem FT {sp lg:aa}{i:Int}(h:0<=i):HY sp lg (i+1).toNat=HY sp lg i.toNat++(if rJ sp lg i then[[.i i]]else[]):=by
 rw[show(i+1).toNat=i.toNat+1 from by omega,HY,Int.toNat_of_nonneg h]
theorem FV {sp lg o:aa}{i:Int}(h:H4 sp lg i o)(h0:0<=i)(hl:layOk sp lg=true)(hv:rJ sp lg i=true):H4 sp lg (i+1) (o++[[.i i]]):=by
 have e:=h.e;have l:=h.l;refine⟨by rw[FT h0,if_pos hv, <-e],?_,fun _=>hl⟩;rw[List.length_append,List.length_cons,List.length_nil];omega
theorem KB {sp lg o:aa}{i:Int}(h:H4 sp lg i o)(h0:0<=i)(hl:layOk sp lg=true)(hv:rJ sp lg i=false):H4 sp lg (i+1) o:=by
 have e:=h.e;have l:=h.l;refine⟨by rw[FT h0,hv, <-e];simp,?_,fun _=>hl⟩;omega
theorem MS {sp lg o:aa}{i:Int}(h:H4 sp lg i o)(h1:i<=512)(h2:512<=i):o=laL sp lg:=by
 have e:i=512:=by omega
 subst e;unfold laL;rw[if_pos (h.y (by omega))];exact h.e
theorem MR {sp lg o:aa}{i:Int}(h:H4 sp lg i o)(h0:0<=i)(hl:layOk sp lg=false):o=laL sp lg:=by
 have z:i=0:=by
  by_cases c:0<i
  ·have:=h.y c;rw[hl]at this;cases this
  ·omega
 subst z;unfold laL;rw[hl];exact h.e
theorem Ql {sp lg:aa}{a:Int}(h:dzO sp lg a=0)(k:dzK sp lg a=1):rJ sp lg a=true:=by unfold rJ;rw[h,k];rfl
theorem Qm {sp lg:aa}{a:Int}(h:dzO sp lg a=0)(k:dzK sp lg a=3):rJ sp lg a=true:=by unfold rJ;rw[h,k];rfl
theorem Qi {sp lg:aa}{a:Int}(h:dzO sp lg a≠0):rJ sp lg a=false:=by unfold rJ;rw[decide_eq_false h];rfl
theorem Qj {sp lg:aa}{a:Int}(h:dzK sp lg a≠1)(k:dzK sp lg a≠3):rJ sp lg a=false:=by unfold rJ;rw[decide_eq_false h,decide_eq_false k,Bool.or_false,Bool.and_false]
theorem ic {a b:aa}(h:a=b):[DV.one (.s 1 a)]=[DV.one (.s 1 b)]:=by rw[h]
end Go.V