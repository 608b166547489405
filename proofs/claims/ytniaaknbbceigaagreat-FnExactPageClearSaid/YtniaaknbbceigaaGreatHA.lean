/-
  Plain facts about rows, pages, slots and heaps.
-/
import Derived.Test.YtniaaknbbceigaaGreatVE
set_option linter.all false
namespace Go.V
theorem cV {n:Int}(h:IntKind.has .i64 n): -9223372036854775808<=n/\n<=9223372036854775807:=h
theorem bD {i:Int}(h0:0<=i)(h1:i<9223372036854775807):aV .add .i64 i 1=i+1:=aB (by omega)
def inR (x a b:Int):Bool:=decide (a<=x)&&decide (x<=b)
theorem bh {x a b:Int}:inR x a b=true↔a<=x/\x<=b:=by simp[inR]
theorem kY {x a b:Int}:inR x a b=false↔x<a\/b<x:=by
 cases h:inR x a b
 ·simp only[true_iff];unfold inR at h;simp only[Bool.and_eq_false_iff,decide_eq_false_iff_not]at h;omega
 ·rw[bh]at h;constructor
  ·intro q;cases q
  ·omega
def bM (p:Int->Bool)(n:Nat):Bool:=(List.range n).all fun j=>p (j:Int)
def upto (p:Int->Bool)(i:Int):Prop:=∀ j:Int,0<=j->j<i->p j=true
theorem aL {p:Int->Bool}:upto p 0:=fun j h0 h1=>absurd h1 (by omega)
theorem ax {p:Int->Bool}{i:Int}(h:upto p i)(hp:p i=true):upto p (i+1):=fun j h0 h1=>by
 by_cases q:j=i
 ·subst q;exact hp
 ·exact h j h0 (by omega)
theorem cE {p:Int->Bool}{n:Nat}:bM p n=true↔upto p n:=by
 simp only[bM,List.all_eq_true,List.mem_range];exact⟨fun h j h0 h1=>by have:=h j.toNat (by omega);rwa [Int.toNat_of_nonneg h0]at this,fun h x hx=>h x (by omega) (by omega)⟩
theorem aT {p:Int->Bool}{n:Nat}{i:Int}(h:upto p i)(hi:(n:Int)<=i):bM p n=true:=cE.2 fun j h0 h1=>h j h0 (by omega)
theorem be {p:Int->Bool}{n:Nat}{i:Int}(h0:0<=i)(h:i<n)(hp:p i=false):bM p n=false:=by
 cases q:bM p n
 ·rfl
 ·rw[cE.1 q i h0 h]at hp;cases hp
theorem dJ {a b:Bool}(h:a=true↔b=true):a=b:=by cases a<;>cases b<;>simp_all
theorem ah {a b:Bool}(h:a=b):[DV.one (.v (.bool a))]=[DV.one (.v (.bool b))]:=by rw[h]
def iG (cs us:List (List L))(i k:Int):Bool:=inR (ab (ay cs i 0) k 0) 0 999&&(jD us i 0||decide (ab (ay cs i 0) k 0=0))
def eM (cs us:List (List L))(i:Int):Bool:=decide ((ay cs i 0).length=16)&&bM (iG cs us i) 16
def framesOk (cs us:List (List L)):Bool:=inR cs.length 1 32&&decide (us.length=cs.length)&&bM (eM cs us) cs.length
def jY (es:List (List L))(fr i:Int):Bool:=inR (ab es i 0) 0 2&&decide (ab es i 0=0->ab es i 1=0)&&decide (0<ab es i 0->0<=ab es i 1/\ab es i 1<fr)
def tableOk (es:List (List L))(fr:Int):Bool:=bM (jY es fr) es.length&&inR es.length 1 32
def tW (es:List (List L))(f:Int):Nat->List (List L)
 |0=>[]
 |n+1=>if ab es n 0≠0/\ab es n 1=f then tW es f n++[[.v (.int .i64 n)]]else tW es f n
def pagesOn (es:List (List L))(f:Int):List (List L):=tW es f es.length
theorem qY {es:List (List L)}{f:Int}:∀ {n:Nat},(tW es f n).length<=n
 |0=>Nat.zero_le _
 | n+1=>by
   have:=qY (es:=es) (f:=f) (n:=n);unfold tW;split
   ·rw[List.length_append];simp;omega
   ·omega
theorem BK {es:List (List L)}{f:Int}{n:Nat}(h0:ab es n 0≠0)(h1:ab es n 1=f):tW es f (n+1)=tW es f n++[[.v (.int .i64 n)]]:=by rw[tW,if_pos ⟨h0,h1⟩]
theorem FK {es:List (List L)}{f:Int}{n:Nat}(h:ab es n 0=0\/ab es n 1≠f):tW es f (n+1)=tW es f n:=by rw[tW,if_neg (by rintro⟨a,b⟩;rcases h with q|q;exact a q;exact q b)]
theorem BJ {es:List (List L)}{f i:Int}(hi:0<=i)(h0:ab es i 0≠0)(h1:ab es i 1=f):tW es f (i+1).toNat=tW es f i.toNat++[[.v (.int .i64 i)]]:=by
 have e:((i.toNat:Nat):Int)=i:=Int.toNat_of_nonneg hi;rw[show(i+1).toNat=i.toNat+1 from by omega,BK (by rw[e];exact h0) (by rw[e];exact h1),e]
theorem wE {es:List (List L)}{f i:Int}(hi:0<=i)(h:ab es i 0=0\/ab es i 1≠f):tW es f (i+1).toNat=tW es f i.toNat:=by
 have e:((i.toNat:Nat):Int)=i:=Int.toNat_of_nonneg hi;rw[show(i+1).toNat=i.toNat+1 from by omega,FK (by rw[e];exact h)]
theorem vo {es:List (List L)}{f:Int}:(pagesOn es f).length<=es.length:=qY
def sT (es:List (List L))(f:Int):Bool:=decide (0<(pagesOn es f).length)
theorem HK {es:List (List L)}{f:Int}:sT es f=true↔0<(pagesOn es f).length:=by simp[sT]
theorem Ef {cs us:List (List L)}(h:inR cs.length 1 32=false):framesOk cs us=false:=by unfold framesOk;rw[h];rfl
theorem Eg {cs us:List (List L)}(h:us.length≠cs.length):framesOk cs us=false:=by unfold framesOk;rw[decide_eq_false h];simp
theorem Eh {cs us:List (List L)}{i:Int}(h0:0<=i)(h1:i<cs.length)(h:(ay cs i 0).length≠16):framesOk cs us=false:=by
 unfold framesOk;rw[be h0 h1 (by unfold eM;rw[decide_eq_false h];rfl)];simp
theorem wc {cs us:List (List L)}{i k:Int}(h0:0<=i)(h1:i<cs.length)(k0:0<=k)(k1:k<16)(h:inR (ab (ay cs i 0) k 0) 0 999=false\/jD us i 0=false/\ab (ay cs i 0) k 0≠0):framesOk cs us=false:=by
 unfold framesOk;rw[be h0 h1 (by unfold eM;rw[be k0 (by simpa using k1) (by unfold iG;rcases h with q|⟨q,q'⟩;rw[q];rfl;rw[q,decide_eq_false q'];simp)];simp)];simp
theorem Ei {cs us:List (List L)}{i:Int}(h1:inR cs.length 1 32=true)(h2:us.length=cs.length)(h:upto (eM cs us) i)(hi:(cs.length:Int)<=i):framesOk cs us=true:=by
 unfold framesOk;rw[h1,decide_eq_true h2,aT h hi];rfl
theorem Jk {cs us:List (List L)}{i k:Int}(hl:(ay cs i 0).length=16)(h:upto (iG cs us i) k)(hk:16<=k):eM cs us i=true:=by
 unfold eM;rw[decide_eq_true hl,aT h (by simpa using hk)];rfl
theorem I3 {cs us:List (List L)}{i k:Int}(h:inR (ab (ay cs i 0) k 0) 0 999=true)(h':jD us i 0=true\/ab (ay cs i 0) k 0=0):iG cs us i k=true:=by
 unfold iG;rw[h];rcases h' with q|q
 ·rw[q];rfl
 ·rw[decide_eq_true q];simp
theorem lN {k:Nat}{a b:List (List L)}(h:a=b):[DV.one (.s k a)]=[DV.one (.s k b)]:=by rw[h]
theorem Kt {es:List (List L)}{n i:Int}(h0:0<=i)(h1:i<es.length)(h:¬ (0<=ab es i 0/\ab es i 0<=2/\(ab es i 0=0->ab es i 1=0)/\(0<ab es i 0->0<=ab es i 1/\ab es i 1<n))):tableOk es n=false:=by
 unfold tableOk;rw[be h0 h1];rfl;cases q:jY es n i
 ·rfl
 ·refine absurd ?_ h;unfold jY at q;simp only[Bool.and_eq_true,decide_eq_true_eq,bh]at q;exact⟨q.1.1.1,q.1.1.2,q.1.2,q.2⟩
theorem Ks {es:List (List L)}{n i:Int}(h:0<=ab es i 0/\ab es i 0<=2/\(ab es i 0=0->ab es i 1=0)/\(0<ab es i 0->0<=ab es i 1/\ab es i 1<n)):jY es n i=true:=by
 unfold jY;simp only[Bool.and_eq_true,decide_eq_true_eq,bh];exact⟨⟨⟨h.1,h.2.1⟩,h.2.2.1⟩,h.2.2.2⟩
theorem Gv {es:List (List L)}{n i:Int}(h:upto (jY es n) i)(hi:(es.length:Int)<=i):tableOk es n=inR es.length 1 32:=by unfold tableOk;rw[aT h hi];rfl
theorem wT {es:List (List L)}{n:Int}(h:tableOk es n=true):1<=es.length/\es.length<=32:=by
 unfold tableOk at h;simp only[Bool.and_eq_true,bh]at h;omega
theorem PV {es:List (List L)}{n i:Int}(h:tableOk es n=true)(h0:0<=i)(h1:i<es.length):0<=ab es i 0/\ab es i 0<=2/\(ab es i 0=0->ab es i 1=0)/\(0<ab es i 0->0<=ab es i 1/\ab es i 1<n):=by
 unfold tableOk at h;simp only[Bool.and_eq_true]at h;have q:=cE.1 h.1 i h0 h1;unfold jY at q;simp only[Bool.and_eq_true,decide_eq_true_eq,bh]at q;exact⟨q.1.1.1,q.1.1.2,q.1.2,q.2⟩
theorem v9 {cs us:List (List L)}(h:framesOk cs us=true):us.length=cs.length/\1<=cs.length/\cs.length<=32:=by
 unfold framesOk at h;simp only[Bool.and_eq_true,decide_eq_true_eq,bh]at h;omega
theorem A1 {cs us:List (List L)}{i:Int}(h:framesOk cs us=true)(h0:0<=i)(h1:i<cs.length):(ay cs i 0).length=16:=by
 unfold framesOk at h;simp only[Bool.and_eq_true,decide_eq_true_eq,bh]at h;have q:=cE.1 h.2 i h0 h1;unfold eM at q;simp only[Bool.and_eq_true,decide_eq_true_eq]at q;exact q.1
end Go.V
namespace Go.V
theorem k8 {a n:Int}(h0:0<=a)(h1:a<=9223372036854775807)(hn:0<n):aV .quo .i64 a n=a/n:=by
 show IntKind.wrap .i64 (a.tdiv n)=_;rw[Int.tdiv_eq_ediv_of_nonneg h0];have h2:0<=a/n:=Int.ediv_nonneg h0 (by omega);have h3:a/n<=a:=Int.ediv_le_self _ h0;exact IntWalk.i64_in _ (by omega)
theorem BV {a n:Int}(h0:0<=a):aV .rem .i64 a n=a%n:=Int.tmod_eq_emod_of_nonneg h0
theorem Bg {a:List (List L)}{f:Int}:b8 .gtr (pagesOn a f).length 0=sT a f:=dJ (by rw[HK];simp only[SS];omega)
theorem AE {a b a' b':Int}(h:a=a')(h':b=b'):[DV.agg [.v (.int .i64 a),.v (.int .i64 b)]]=[DV.agg [.v (.int .i64 a'),.v (.int .i64 b')]]:=by rw[h,h']
theorem sB {a b a' b':Int}(h:a=a')(h':b=b'):[DV.one (.v (.int .i64 a)),DV.one (.v (.int .i64 b))]=[DV.one (.v (.int .i64 a')),DV.one (.v (.int .i64 b'))]:=by rw[h,h']
theorem bj {a b:Int}(h:a=b):[DV.one (.v (.int .i64 a))]=[DV.one (.v (.int .i64 b))]:=by rw[h]
def peM (es:List (List L))(p:Int):Int:=if 0<=p/\p<es.length then ab es p 0 else 0
def peF (es:List (List L))(p:Int):Int:=if 0<=p/\p<es.length then ab es p 1 else 0
theorem oi {es:List (List L)}{p:Int}(h:0<=p/\p<es.length):peM es p=ab es p 0/\peF es p=ab es p 1:=by unfold peM peF;rw[if_pos h,if_pos h];exact⟨rfl,rfl⟩
theorem tg {es:List (List L)}{p:Int}(h:¬ (0<=p/\p<es.length)):peM es p=0/\peF es p=0:=by unfold peM peF;rw[if_neg h,if_neg h];exact⟨rfl,rfl⟩
theorem BH {es:List (List L)}{n p:Int}(h:tableOk es n=true)(hm:peM es p≠0):0<=peF es p/\peF es p<n/\1<=peM es p/\peM es p<=2:=by
 by_cases q:0<=p/\p<es.length
 ·rw[(oi q).1]at hm ⊢;rw[(oi q).2];have:=PV h q.1 q.2;omega
 ·exact absurd (tg q).1 hm
end Go.V
namespace Go.V
theorem fy {es:List (List L)}:es.length<=aj es:=Nat.le_add_right _ _
def hD (us es:List (List L))(i:Int):Bool:=jD us i 0==sT es i
def machOk (cs us es:List (List L)):Bool:=framesOk cs us&&tableOk es cs.length&&bM (hD us es) cs.length
theorem Bp {cs us es:List (List L)}(h:framesOk cs us=false\/tableOk es cs.length=false):machOk cs us es=false:=by
 unfold machOk;rcases h with h|h<;>rw[h]<;>simp
theorem LM {cs us es:List (List L)}(hf:framesOk cs us=true)(h:tableOk es us.length=false):machOk cs us es=false:=by
 rw[(v9 hf).1]at h;exact Bp (.inr h)
theorem E1 {cs us es:List (List L)}{i:Int}(h0:0<=i)(h1:i<cs.length)(h:jD us i 0≠sT es i):machOk cs us es=false:=by
 unfold machOk;rw[be h0 h1 (by unfold hD;simpa using h)];simp
theorem JH {us es:List (List L)}{i:Int}(h:jD us i 0=sT es i):hD us es i=true:=by unfold hD;simpa using h
theorem E2 {cs us es:List (List L)}{i:Int}(h:framesOk cs us=true)(h2:tableOk es us.length=true)(hu:upto (hD us es) i)(hi:(us.length:Int)<=i):machOk cs us es=true:=by
 rw[(v9 h).1]at h2 hi;unfold machOk;rw[h,h2,aT hu hi];rfl
theorem Bq {cs us es:List (List L)}(q:machOk cs us es=true):framesOk cs us=true/\tableOk es cs.length=true/\∀ i:Int,0<=i->i<cs.length->jD us i 0=sT es i:=by
 unfold machOk at q;simp only[Bool.and_eq_true]at q;refine⟨q.1.1,q.1.2,fun i h0 h1=>?_⟩;have:=cE.1 q.2 i h0 h1;unfold hD at this;simpa using this
def E4 :List (List (List L))->Int->List (List (List L))
 |[],_=>[]
 |r::rs,k=>bN r k::E4 rs (aS [r] k)
theorem x8 :∀ {rs:List (List (List L))} {k k':Int},aS (E4 rs k) k'=aS rs k'
 |[],_,_=>rfl
 | r::rs,k,k'=>by
   show aS (E4 rs (aS [r] k)) (cy (cy r k).1 k').2=aS rs (cy r k').2;rw[qW];exact x8
theorem ya {rs:List (List (List L))}(h:∀ r∈rs,(cy r 0).2<=(64*aj r:Nat))(hc:ao rs<=1099511627776):aS rs 1<=1152921504606846976:=EE h (by omega) hc
theorem au :∀ {rs:List (List (List L))} {r:List (List L)} {n:Nat},ao rs<=n->r∈rs->aj r<=n
 | a::rs,r,n,h,hr=>by
   simp only[ao]at h;rcases List.mem_cons.1 hr with rfl|q
   ·omega
   ·exact au (rs:=rs) (by omega) q
end Go.V
namespace Go.V
end Go.V
namespace Go.V
def clsSz (k:Int):Int:=if k=0 then 1 else if k=1 then 2 else if k=2 then 4 else if k=3 then 8 else 0
def clsOf (s:Int):Int:=if s<1 then-1 else if s<=1 then 0 else if s<=2 then 1 else if s<=4 then 2 else if s<=8 then 3 else-1
theorem I7 {k:Int}(h:inR k 0 3=false):clsSz k=0:=by rw[kY]at h;unfold clsSz;repeat' split<;>omega
theorem D1 {k:Int}(h:inR k 0 3=true):Mq .shl .i64 1 k=clsSz k:=by
 rw[bh]at h;rcases(show k=0\/k=1\/k=2\/k=3 by omega)with rfl|rfl|rfl|rfl<;>decide
theorem I8 {k:Int}(h:inR k 0 3=true):MW .u64 k=k:=by
 rw[bh]at h;rcases(show k=0\/k=1\/k=2\/k=3 by omega)with rfl|rfl|rfl|rfl<;>decide
theorem AV {k s:Int}(h0:0<=k/\k<=3)(h:clsSz k<s)(hs:1<=s/\s<=8):k+1<=3:=by
 rcases(show k=0\/k=1\/k=2\/k=3 by omega)with rfl|rfl|rfl|rfl<;>simp[clsSz]at h<;>omega
theorem I5 {s:Int}(h:s<1\/8<s):clsOf s= -1:=by unfold clsOf;repeat' split<;>omega
theorem DT {k s:Int}(h0:0<=k/\k<=3)(h:s<=clsSz k)(hs:1<=s/\s<=8)(hp:k=0\/clsSz (k-1)<s):clsOf s=k:=by
 rcases(show k=0\/k=1\/k=2\/k=3 by omega)with rfl|rfl|rfl|rfl<;>simp[clsSz]at h hp<;>unfold clsOf<;>repeat' split<;>omega
end Go.V
namespace Go.V
theorem I4 {s:Int}(h:0<=clsOf s):1<=s/\s<=clsSz (clsOf s)/\clsSz (clsOf s)<=8/\clsOf s<=3:=by
 unfold clsOf at h ⊢
 repeat' split at h
 all_goals simp_all [clsSz]
 all_goals omega
theorem fP {l:List (List L)}{i:Int}(h0:0<=i):Ka (.s 1 l) [(i.toNat,0)]=ab l i 0:=by
 rw[FM];unfold ab;rw[Int.toNat_natCast]
theorem Hu {l:List (List L)}{i:Int}(h:Rw [tI] l)(h0:0<=i)(h1:i<l.length):∃ rec o,bL (.s 1 l) [(i.toNat,0)]=some (rec,o)/\o+[L.v (Value.int .i64 0)].length<=rec.length/\List.take [L.v (Value.int .i64 0)].length (List.drop o rec)=jZ af (.s 1 l) [(i.toNat,0)] 0 [L.v (Value.int .i64 0)]:=by
 have e:l.getD i.toNat []=[L.v (.int .i64 (ab l i 0))]:=h.eta h0 h1;rw[List.getD_eq_getElem?_getD,List.getElem?_eq_getElem (by omega)]at e;have e1:l[i.toNat]?=some [.v (.int .i64 (ab l i 0))]:=by
  rw[List.getElem?_eq_getElem (by omega)];exact congrArg some e
 refine⟨[.v (.int .i64 (ab l i 0))],0,?_,Nat.le_refl _,?_⟩
 ·rw[gA,e1];rfl
 ·show[L.v (.int .i64 (ab l i 0))]=[L.v (.int .i64 (Ka (.s 1 l) [(i.toNat,0)]))];rw[fP h0]
end Go.V
namespace Go.V
theorem wG {es:List (List L)}{f:Int}:∀ {n:Nat} {e:(List L)},e∈tW es f n->∃ k:Nat,k<n/\e=[.v (.int .i64 k)]
 |0,e,h=>by cases h
 | n+1,e,h=>by
   unfold tW at h;split at h
   ·rcases List.mem_append.1 h with q|q
    ·obtain⟨k,hk,e⟩:=wG q;exact⟨k,by omega,e⟩
    ·rw[List.mem_singleton]at q;exact⟨n,by omega,q⟩
   ·obtain⟨k,hk,e⟩:=wG h;exact⟨k,by omega,e⟩
theorem FB {es:List (List L)}{f:Int}(h:es.length<=1099511627776):Rw [tI] (pagesOn es f):=by
 have hl:=vo (es:=es) (f:=f);refine⟨by simp[maxLen];omega,fun e he=>?_⟩;obtain⟨k,hk,rfl⟩:=wG he;exact⟨⟨rfl,(show-9223372036854775808<=(k:Int)/\(k:Int)<=9223372036854775807 by omega)⟩,trivial⟩
end Go.V
namespace Go.V
def cF (p:Int->Bool)(n:Nat):Int:=match(List.range n).find? (fun j:Nat=>p (j:Int))with
 |some j=>(j:Int)
 |none=> -1
def bV (p:Int->Bool)(j:Int):Bool:= !p j
theorem hH {p:Int->Bool}{i:Int}(h:p i=false):bV p i=true:=by unfold bV;rw[h];rfl
theorem dm {p:Int->Bool}{n:Nat}{i:Int}(h:upto (bV p) i)(h0:0<=i)(h1:i<n)(h2:p i=true):cF p n=i:=by
 have e:((i.toNat:Nat):Int)=i:=Int.toNat_of_nonneg h0;have:(List.range n).find? (fun j:Nat=>p (j:Int))=some i.toNat:=by
  rw[List.find?_range_eq_some];refine⟨by rw[e];exact h2,List.mem_range.2 (by omega),fun j hj=>?_⟩;exact h j (by omega) (by omega)
 unfold cF;rw[this];exact e
theorem dn {p:Int->Bool}{n:Nat}{i:Int}(h:upto (bV p) i)(h1:(n:Int)<=i):cF p n= -1:=by
 have:(List.range n).find? (fun j:Nat=>p (j:Int))=none:=by
  rw[List.find?_range_eq_none];intro j hj;exact h j (by omega) (by omega)
 unfold cF;rw[this]
theorem mz {p:Int->Bool}{n:Nat}:cF p n= -1\/0<=cF p n/\cF p n<n:=by
 unfold cF;split
 ·rename_i j h;rw[List.find?_range_eq_some]at h;have:=List.mem_range.1 h.2.1;omega
 ·exact .inl rfl
def eqB (a b:Int):Bool:=decide (a=b)
theorem js {a b:Int}(h:a=b):eqB a b=true:=decide_eq_true h
theorem sD {a b:Int}(h:a≠b):eqB a b=false:=decide_eq_false h
theorem Qh {a:List (List L)}:ao [a]=aj a:=cz
end Go.V
namespace Go.V
def isSp (ss:List (List L))(p j:Int):Bool:=eqB (ab ss j 0) p
def spI (ss:List (List L))(p:Int):Int:=cF (isSp ss p) ss.length
end Go.V
namespace Go.V
def np (x:Int):BitVec 64:=BitVec.ofInt 64 x
theorem Cs (x:BitVec 64):IntKind.wrap .i64 (x.toNat:Int)=x.toInt:=by
 have h:=x.isLt;rw[BitVec.toInt_eq_toNat_cond];simp only[IntKind.wrap,IntKind.bits,IntKind.signed,Bool.true_and,decide_eq_true_eq,show(64-1:Nat)=63 from rfl];split<;>split<;>omega
theorem Fu {a b:Int}:aV .or .i64 a b=(np a|||np b).toInt:=Cs _
theorem KT {x:BitVec 64}:np x.toInt=x:=BitVec.ofInt_toInt
theorem EB {a:Int}(h: -9223372036854775808<=a/\a<=9223372036854775807):(np a).toInt=a:=by
 unfold np;rw[BitVec.toInt_ofInt,Int.bmod_def];split<;>omega
def fpg (es:List (List L))(p:Int):List (List L):=if peM es p=0 then[]else pagesOn es (peF es p)
theorem zq {es:List (List L)}{p:Int}(h:peM es p=0):fpg es p=[]:=by unfold fpg;rw[if_pos h]
theorem v8 {es:List (List L)}{p:Int}(h:peM es p≠0):fpg es p=pagesOn es (peF es p):=by unfold fpg;rw[if_neg h]
theorem zt {es:List (List L)}{p:Int}(h:es.length<=1099511627776):Rw [tI] (fpg es p)/\(fpg es p).length<=1099511627776:=by
 unfold fpg;split
 ·exact⟨Rw.nil,by simp⟩
 ·exact⟨FB h,Nat.le_trans vo h⟩
def C9 (l:List (List L))(x j:Int):Bool:=eqB x (ab l j 0)
def idxI (l:List (List L))(x:Int):Int:=cF (C9 l x) l.length
def hasB (l:List (List L))(x:Int):Bool:=decide (0<=idxI l x)
theorem jt {l:List (List L)}{x:Int}:hasB l x=true↔∃ k:Nat,k<l.length/\ab l k 0=x:=by
 unfold hasB idxI;rw[decide_eq_true_eq]
 constructor
 ·intro h;unfold cF at h;split at h
  ·rename_i j hj;rw[List.find?_range_eq_some]at hj;refine⟨j,List.mem_range.1 hj.2.1,?_⟩;have:=hj.1;unfold C9 eqB at this;exact(of_decide_eq_true this).symm
  ·omega
 ·rintro⟨k,hk,e⟩;rcases mz (p:=C9 l x) (n:=l.length)with q|q
  ·exfalso;unfold cF at q;split at q
   ·omega
   ·rename_i hn;rw[List.find?_range_eq_none]at hn;have:=hn k hk;unfold C9 eqB at this;rw[e]at this;simp at this
  ·exact q.1
def Cm (ss l:List (List L))(b:Int):Nat->Int
 |0=>b
 |n+1=>if hasB l (ab ss n 0)=true then aV .or .i64 (Cm ss l b n) (ab ss n 2)else Cm ss l b n
def xz (ss:List (List L))(x b:Int):Nat->Int
 |0=>b
 |n+1=>if ab ss n 0=x then aV .or .i64 (xz ss x b n) (ab ss n 2)else xz ss x b n
def CX (ss l:List (List L))(b:Int):Nat->Int
 |0=>b
 |k+1=>xz ss (ab l k 0) (CX ss l b k) ss.length
theorem Iu {ss:List (List L)}{x b i:Int}(h:0<=i)(q:ab ss i 0=x):xz ss x b (i+1).toNat=aV .or .i64 (xz ss x b i.toNat) (ab ss i 2):=by
 have e:((i.toNat:Nat):Int)=i:=Int.toNat_of_nonneg h;rw[show(i+1).toNat=i.toNat+1 by omega,xz,e,if_pos q]
theorem Mu {ss:List (List L)}{x b i:Int}(h:0<=i)(q:ab ss i 0≠x):xz ss x b (i+1).toNat=xz ss x b i.toNat:=by
 have e:((i.toNat:Nat):Int)=i:=Int.toNat_of_nonneg h;rw[show(i+1).toNat=i.toNat+1 by omega,xz,e,if_neg q]
theorem Mv {ss l:List (List L)}{b i:Int}(h:0<=i):CX ss l b (i+1).toNat=xz ss (ab l i 0) (CX ss l b i.toNat) ss.length:=by
 have e:((i.toNat:Nat):Int)=i:=Int.toNat_of_nonneg h;rw[show(i+1).toNat=i.toNat+1 by omega,CX,e]
def FW (a:Int):Prop:= -9223372036854775808<=a/\a<=9223372036854775807
theorem Md {x:BitVec 64}:FW x.toInt:=by
 have h1:=x.toInt_lt;have h2:=x.le_toInt;unfold FW;omega
theorem FX {a b:Int}:FW (aV .or .i64 a b):=by rw[Fu];exact Md
theorem Ku {ss l:List (List L)}{b:Int}(h:FW b):∀ {n:Nat},FW (Cm ss l b n)
 |0=>h
 |n+1=>by unfold Cm;split;exact FX;exact Ku h
theorem Kv {ss:List (List L)}{x b:Int}(h:FW b):∀ {n:Nat},FW (xz ss x b n)
 |0=>h
 |n+1=>by unfold xz;split;exact FX;exact Kv h
theorem Kw {ss l:List (List L)}{b:Int}(h:FW b):∀ {n:Nat},FW (CX ss l b n)
 |0=>h
 |n+1=>by unfold CX;exact Kv (Kw h)
theorem zd {a b:Int}{t:Nat}:(np (aV .or .i64 a b)).getLsbD t=((np a).getLsbD t||(np b).getLsbD t):=by
 rw[Fu,KT,BitVec.getLsbD_or]
theorem M4 {ss l:List (List L)}{b:Int}{t:Nat}:∀ {n:Nat},(np (Cm ss l b n)).getLsbD t=true↔(np b).getLsbD t=true\/∃ j:Nat,j<n/\hasB l (ab ss j 0)=true/\(np (ab ss j 2)).getLsbD t=true
 |0=>by simp[Cm]
 | n+1=>by
   have ih:=M4 (ss:=ss) (l:=l) (b:=b) (t:=t) (n:=n);unfold Cm;by_cases c:hasB l (ab ss n 0)=true
   ·rw[if_pos c,zd,Bool.or_eq_true,ih]
    constructor
    ·rintro((h|⟨j,h1,h2,h3⟩)|h)
     ·exact .inl h
     ·exact .inr ⟨j,by omega,h2,h3⟩
     ·exact .inr ⟨n,by omega,c,h⟩
    ·rintro(h|⟨j,h1,h2,h3⟩)
     ·exact .inl (.inl h)
     ·rcases(show j<n\/j=n by omega)with q|rfl
      ·exact .inl (.inr ⟨j,q,h2,h3⟩)
      ·exact .inr h3
   ·rw[if_neg c,ih]
    constructor
    ·rintro(h|⟨j,h1,h2,h3⟩)
     ·exact .inl h
     ·exact .inr ⟨j,by omega,h2,h3⟩
    ·rintro(h|⟨j,h1,h2,h3⟩)
     ·exact .inl h
     ·rcases(show j<n\/j=n by omega)with q|rfl
      ·exact .inr ⟨j,q,h2,h3⟩
      ·exact absurd h2 c
theorem M5 {ss:List (List L)}{x b:Int}{t:Nat}:∀ {n:Nat},(np (xz ss x b n)).getLsbD t=true↔(np b).getLsbD t=true\/∃ j:Nat,j<n/\ab ss j 0=x/\(np (ab ss j 2)).getLsbD t=true
 |0=>by simp[xz]
 | n+1=>by
   have ih:=M5 (ss:=ss) (x:=x) (b:=b) (t:=t) (n:=n);unfold xz;by_cases c:ab ss n 0=x
   ·rw[if_pos c,zd,Bool.or_eq_true,ih]
    constructor
    ·rintro((h|⟨j,h1,h2,h3⟩)|h)
     ·exact .inl h
     ·exact .inr ⟨j,by omega,h2,h3⟩
     ·exact .inr ⟨n,by omega,c,h⟩
    ·rintro(h|⟨j,h1,h2,h3⟩)
     ·exact .inl (.inl h)
     ·rcases(show j<n\/j=n by omega)with q|rfl
      ·exact .inl (.inr ⟨j,q,h2,h3⟩)
      ·exact .inr h3
   ·rw[if_neg c,ih]
    constructor
    ·rintro(h|⟨j,h1,h2,h3⟩)
     ·exact .inl h
     ·exact .inr ⟨j,by omega,h2,h3⟩
    ·rintro(h|⟨j,h1,h2,h3⟩)
     ·exact .inl h
     ·rcases(show j<n\/j=n by omega)with q|rfl
      ·exact .inr ⟨j,q,h2,h3⟩
      ·exact absurd h2 c
theorem M6 {ss l:List (List L)}{b:Int}{t:Nat}:∀ {k:Nat},(np (CX ss l b k)).getLsbD t=true↔(np b).getLsbD t=true\/∃ i j:Nat,i<k/\j<ss.length/\ab ss j 0=ab l i 0/\(np (ab ss j 2)).getLsbD t=true
 |0=>by simp[CX]
 | k+1=>by
   have ih:=M6 (ss:=ss) (l:=l) (b:=b) (t:=t) (k:=k);unfold CX;rw[M5,ih]
   constructor
   ·rintro((h|⟨i,j,h1,h2,h3,h4⟩)|⟨j,h1,h2,h3⟩)
    ·exact .inl h
    ·exact .inr ⟨i,j,by omega,h2,h3,h4⟩
    ·exact .inr ⟨k,j,by omega,h1,h2,h3⟩
   ·rintro(h|⟨i,j,h1,h2,h3,h4⟩)
    ·exact .inl (.inl h)
    ·rcases(show i<k\/i=k by omega)with q|rfl
     ·exact .inl (.inr ⟨i,j,q,h2,h3,h4⟩)
     ·exact .inr ⟨j,h2,h3,h4⟩
theorem PW {ss l:List (List L)}{b:Int}(h:FW b):CX ss l b l.length=Cm ss l b ss.length:=by
 rw[<-EB (Kw (ss:=ss) (l:=l) h (n:=l.length)), <-EB (Ku (ss:=ss) (l:=l) h (n:=ss.length))]
 congr 1
 refine BitVec.eq_of_getLsbD_eq fun t _=>dJ ?_
 rw[M6,M4]
 constructor
 ·rintro(h|⟨i,j,h1,h2,h3,h4⟩)
  ·exact .inl h
  ·exact .inr ⟨j,h2,jt.2 ⟨i,h1,h3.symm⟩,h4⟩
 ·rintro(h|⟨j,h1,h2,h3⟩)
  ·exact .inl h
  ·obtain⟨i,hi,e⟩:=jt.1 h2;exact .inr ⟨i,j,hi,h1,e.symm,h3⟩
def ubB (es ss:List (List L))(i:Int):Int:=if inR i 0 (ss.length-1)=true then Cm ss (fpg es (ab ss i 0)) (ab ss i 2) ss.length else 0
theorem PX {es ss:List (List L)}{i:Int}(h:inR i 0 (ss.length-1)=false):ubB es ss i=0:=by unfold ubB;rw[h];rfl
theorem Gw {es ss:List (List L)}{i:Int}(h:inR i 0 (ss.length-1)=true):ubB es ss i=Cm ss (fpg es (ab ss i 0)) (ab ss i 2) ss.length:=by unfold ubB;rw[if_pos h]
theorem Mt {ss:List (List L)}{i:Int}(h:Rw [tI,tI,tI] ss)(h0:0<=i)(h1:i<ss.length):FW (ab ss i 2):=by
 have e:=h.at (n:=i.toNat) (by omega);rw[h.eta h0 h1]at e;have e':bS [tI,tI,tI] [.v (.int .i64 (ab ss i 0)),.v (.int .i64 (ab ss i 1)),.v (.int .i64 (ab ss i 2))]:=e;exact e'.2.2.1.2
end Go.V
namespace Go.V
def slB (b i:Int):Bool:=decide (0<=b)&&inR i 0 15
def hsB (b i:Int):Bool:=slB b i&&decide (aV .and .i64 (Mq .shr .i64 b i) 1=1)
theorem Mr {b i:Int}:slB b i=true↔0<=b/\0<=i/\i<=15:=by simp[slB,inR]
theorem Js {b i:Int}(h:slB b i=false):hsB b i=false:=by unfold hsB;rw[h];rfl
theorem yP {i:Int}(h0:0<=i)(h1:i<=15):MW .u64 i=i:=by
 show IntKind.wrap .u64 i=i;simp only[IntKind.wrap,IntKind.bits,IntKind.signed,Bool.false_and];rw[if_neg (by simp)];omega
end Go.V
namespace Go.V
def yg (rs:List (List L))(i:Int):Bool:=decide (0<=ab rs i 0)
def pd (rs:List (List L)):Bool:=bM (yg rs) rs.length&&decide (rs.length<=40)
def kerOk (cs us es:List (List L))(c:Int)(rs:List (List L)):Bool:=machOk cs us es&&inR c 0 100000&&pd rs
theorem F1 {rs:List (List L)}{i:Int}(h:0<=ab rs i 0):yg rs i=true:=decide_eq_true h
theorem F2 {cs us es rs:List (List L)}{c i:Int}(h0:0<=i)(h1:i<rs.length)(h:ab rs i 0<0):kerOk cs us es c rs=false:=by
 unfold kerOk pd;rw[be h0 h1 (by unfold yg;exact decide_eq_false (by omega))];simp
theorem H8 {rs:List (List L)}{i:Int}(h:upto (yg rs) i)(hi:(rs.length:Int)<=i)(hl:(rs.length:Int)<=40):pd rs=true:=by
 unfold pd;rw[aT h hi,decide_eq_true (by omega)];rfl
theorem H7 {rs:List (List L)}(hl:¬ (rs.length:Int)<=40):pd rs=false:=by
 unfold pd;rw[decide_eq_false (by omega)];simp
theorem HE {cs us es rs:List (List L)}{c:Int}(h1:machOk cs us es=false):kerOk cs us es c rs=false:=by unfold kerOk;rw[h1];rfl
theorem A9 {cs us es rs:List (List L)}{c:Int}(h1:inR c 0 100000=false):kerOk cs us es c rs=false:=by unfold kerOk;rw[h1];simp
theorem HF {cs us es rs:List (List L)}{c:Int}(h1:pd rs=false):kerOk cs us es c rs=false:=by unfold kerOk;rw[h1];simp
end Go.V
namespace Go.V
def slN (k:Int):Int:=if inR k 0 3=true then 16/clsSz k else 0
theorem Hj {k:Int}(h:inR k 0 3=true):k=0\/k=1\/k=2\/k=3:=by have:=bh.1 h;omega
theorem fE {k:Int}(h:inR k 0 3=true):1<=clsSz k/\clsSz k<=8/\2<=slN k/\slN k<=16/\slN k*clsSz k=16:=by
 rcases Hj h with rfl|rfl|rfl|rfl<;>decide
theorem Gn {k:Int}(h:inR k 0 3=true):aV .quo .i64 16 (clsSz k)=slN k:=by
 rcases Hj h with rfl|rfl|rfl|rfl<;>decide
theorem Gp {k:Int}(h:inR k 0 3=true):Mq .shr .i64 16 (MW .u64 k)=slN k:=by
 rcases Hj h with rfl|rfl|rfl|rfl<;>decide
theorem Af {k:Int}(h:inR k 0 3=false):slN k=0:=by unfold slN;rw[h];rfl
def bmOk (n b:Int):Bool:=inR n 1 16&&inR b 0 (2^n.toNat-1)
theorem Gl {n:Int}(h:inR n 1 16=true):aV .sub .i64 (Mq .shl .i64 1 n) 1=2^n.toNat-1/\aV .sub .i64 (Mq .shl .i64 1 (MW .u64 n)) 1=2^n.toNat-1/\0<=MW .u64 n:=by
 have q:=bh.1 h;have:n=1\/n=2\/n=3\/n=4\/n=5\/n=6\/n=7\/n=8\/n=9\/n=10\/n=11\/n=12\/n=13\/n=14\/n=15\/n=16:=by omega
 rcases this with rfl|rfl|rfl|rfl|rfl|rfl|rfl|rfl|rfl|rfl|rfl|rfl|rfl|rfl|rfl|rfl<;>decide
theorem IO {n b:Int}(h:inR n 1 16=false):bmOk n b=false:=by unfold bmOk;rw[h];rfl
theorem Ds {n b:Int}(h:inR n 1 16=true):bmOk n b=inR b 0 (2^n.toNat-1):=by unfold bmOk;rw[h];rfl
def spOk (p k b:Int):Bool:=inR p 0 31&&bmOk (slN k) b
theorem Dr {k b:Int}(h:inR k 0 3=false):bmOk (slN k) b=false:=by rw[Af h];rfl
theorem Gs {p k b:Int}(h:inR p 0 31=false):spOk p k b=false:=by unfold spOk;rw[h];rfl
theorem Ms {p k b:Int}(h:inR k 0 3=false):spOk p k b=false:=by unfold spOk;rw[Dr h,Bool.and_false]
theorem Gt {p k b:Int}(h:inR p 0 31=true):spOk p k b=bmOk (slN k) b:=by unfold spOk;rw[h];rfl
theorem fe {p k b:Int}(h:spOk p k b=true):0<=p/\p<=31/\inR k 0 3=true/\bmOk (slN k) b=true:=by
 unfold spOk at h;simp only[Bool.and_eq_true,bh]at h;refine⟨h.1.1,h.1.2,?_,h.2⟩;cases q:inR k 0 3
 ·rw[Dr q]at h;exact absurd h.2 (by decide)
 ·rfl
def pfN (s:Int):Int:=if inR s 9 1000=true then(s+15)/16 else 0
theorem FJ {s:Int}(h:inR s 9 1000=true):aV .quo .i64 (aV .sub .i64 (aV .add .i64 s 16) 1) 16=pfN s:=by
 have q:=bh.1 h;have e1:aV .add .i64 s 16=s+16:=aB (by omega);have e2:aV .sub .i64 (s+16) 1=s+16-1:=cH (by omega);unfold pfN;rw[if_pos h,e1,e2,k8 (by omega) (by omega) (by omega),show s+16-1=s+15 from by omega]
theorem FH {s:Int}(h:inR s 9 1000=false):pfN s=0:=by unfold pfN;rw[h];rfl
theorem gK {s:Int}(h:inR s 9 1000=true):1<=pfN s/\pfN s<=63/\s<=pfN s*16:=by
 have q:=bh.1 h;unfold pfN;rw[if_pos h];omega
theorem FI {s:Int}:0<pfN s↔inR s 9 1000=true:=by
 constructor
 ·intro h;cases q:inR s 9 1000
  ·rw[FH q]at h;omega
  ·rfl
 ·intro h;have:=gK h;omega
def lgOk (p n s:Int):Bool:=inR s 9 1000&&(decide (n=pfN s)&&inR p 0 (32-n))
theorem EP {p n s:Int}(h:inR s 9 1000=false):lgOk p n s=false:=by unfold lgOk;rw[h];rfl
theorem EQ {p n s:Int}(h:n≠pfN s):lgOk p n s=false:=by unfold lgOk;rw[decide_eq_false h];simp
theorem ER {p n s:Int}(h:inR s 9 1000=true)(h2:n=pfN s):lgOk p n s=inR p 0 (32-n):=by unfold lgOk;rw[h,decide_eq_true h2];rfl
theorem fH {p n s:Int}(h:lgOk p n s=true):inR s 9 1000=true/\n=pfN s/\0<=p/\p<=32-n:=by
 unfold lgOk at h;simp only[Bool.and_eq_true,decide_eq_true_eq,bh]at h;exact⟨bh.2 h.1,h.2.1,h.2.2⟩
def yq (p k b a:Int):Bool:=spOk p k b&&inR a (p*16) (p*16+15)
def saS (p k b a:Int):Int:=if yq p k b a=true then(a-p*16)/clsSz k else-1
def saO (p k b a:Int):Int:=if yq p k b a=true then(a-p*16)%clsSz k else-1
theorem vt {p k b a:Int}(h:yq p k b a=false):saS p k b a= -1/\saO p k b a= -1:=by unfold saS saO;rw[h];exact⟨rfl,rfl⟩
theorem oB {p k b a:Int}(h:yq p k b a=true):saS p k b a=(a-p*16)/clsSz k/\saO p k b a=(a-p*16)%clsSz k:=by unfold saS saO;rw[if_pos h,if_pos h];exact⟨rfl,rfl⟩
theorem oA {p k b a:Int}:yq p k b a=true↔spOk p k b=true/\p*16<=a/\a<=p*16+15:=by unfold yq;rw[Bool.and_eq_true,bh]
def KO (p k b s:Int):Bool:=spOk p k b&&inR s 0 (slN k-1)
def aaI (p k b s:Int):Int:=if KO p k b s=true then p*16+s*clsSz k else-1
def lhB (p n s a:Int):Bool:=lgOk p n s&&inR a (p*16) (p*16+s-1)
def loI (p n s a:Int):Int:=if lhB p n s a=true then a-p*16 else-1
theorem EU {p n s a:Int}(h:lgOk p n s=false):lhB p n s a=false:=by unfold lhB;rw[h];rfl
theorem zE {p n s a:Int}(h:lgOk p n s=true):lhB p n s a=inR a (p*16) (p*16+s-1):=by unfold lhB;rw[h];rfl
theorem JE {p n s a:Int}(h:lhB p n s a=false):loI p n s a= -1:=by unfold loI;rw[h];rfl
theorem LG {p n s a:Int}(h:lhB p n s a=true):loI p n s a=a-p*16:=by unfold loI;rw[if_pos h]
theorem zK {a b:Int}(h: -9223372036854775808<=a*b/\a*b<=9223372036854775807):aV .mul .i64 a b=a*b:=IntWalk.i64_in _ h
theorem OZ {p:Int}(h:0<=p/\p<=31):aV .mul .i64 p 16=p*16/\aV .sub .i64 (aV .add .i64 (p*16) 16) 1=p*16+15:=by
 have e1:aV .mul .i64 p 16=p*16:=zK (by omega);have e2:aV .add .i64 (p*16) 16=p*16+16:=aB (by omega);have e3:aV .sub .i64 (p*16+16) 1=p*16+16-1:=cH (by omega);rw[e1,e2,e3];omega
theorem Ib {p k b a:Int}(h:spOk p k b=true)(h1:inR a (p*16) (p*16+15)=true):saS p k b a=aV .quo .i64 (aV .sub .i64 a (p*16)) (clsSz k)/\saO p k b a=aV .rem .i64 (aV .sub .i64 a (p*16)) (clsSz k):=by
 have t:=fe h;have q:=bh.1 h1;have c:=fE t.2.2.1;have y:=oB (oA.2 ⟨h,q⟩);have e:aV .sub .i64 a (p*16)=a-p*16:=cH (by omega);rw[y.1,y.2,e,k8 (by omega) (by omega) (by omega),BV (by omega)];exact⟨rfl,rfl⟩
theorem Km {p k b a:Int}(h:spOk p k b=false):yq p k b a=false:=by unfold yq;rw[h];rfl
theorem PO {p k b a:Int}(h:inR a (p*16) (p*16+15)=false):yq p k b a=false:=by unfold yq;rw[h,Bool.and_false]
theorem Ic {p k b a:Int}(h:spOk p k b=true)(h0:¬ a<0)(h1:aV .quo .i64 a 16=p)(ha:a<=9223372036854775807):saS p k b a=aV .quo .i64 (aV .rem .i64 a 16) (clsSz k)/\saO p k b a=aV .rem .i64 (aV .rem .i64 a 16) (clsSz k):=by
 have t:=fe h;have c:=fE t.2.2.1;rw[k8 (by omega) ha (by omega)]at h1;have e:aV .rem .i64 a 16=a%16:=BV (by omega);have y:=oB (oA.2 ⟨h,show p*16<=a/\a<=p*16+15 by omega⟩);rw[y.1,y.2,e,k8 (by omega) (by omega) (by omega),BV (by omega),show a-p*16=a%16 by omega];exact⟨rfl,rfl⟩
theorem Kn {p k b a:Int}(h0:a<0\/aV .quo .i64 a 16≠p)(ha:a<=9223372036854775807):yq p k b a=false:=by
 cases q:yq p k b a
 ·rfl
 ·obtain⟨h,h1⟩:=oA.1 q;have t:=fe h;rcases h0 with h0|h0
  ·omega
  ·rw[k8 (by omega) ha (by omega)]at h0;omega
theorem KP {p k b s:Int}(h:spOk p k b=true)(h1:inR s 0 (slN k-1)=true):aV .add .i64 (aV .mul .i64 p 16) (aV .mul .i64 s (clsSz k))=aaI p k b s:=by
 have t:=fe h;have c:=fE t.2.2.1;have q:=bh.1 h1;have m1:0<=s*clsSz k:=Int.mul_nonneg q.1 (by omega);have m2:s*clsSz k<=(slN k-1)*clsSz k:=Int.mul_le_mul_of_nonneg_right q.2 (by omega);have m3:(slN k-1)*clsSz k=16-clsSz k:=by rw[Int.sub_mul,c.2.2.2.2,Int.one_mul]
 have e:aV .mul .i64 s (clsSz k)=s*clsSz k:=zK (by omega);rw[(OZ ⟨t.1,t.2.1⟩).1,e];unfold aaI KO;rw[h,h1];exact aB (by omega)
theorem IK {p k b s:Int}(h:spOk p k b=false\/inR s 0 (slN k-1)=false):aaI p k b s= -1:=by
 unfold aaI KO;rcases h with h|h
 ·rw[h];rfl
 ·rw[h,Bool.and_false];rfl
theorem ET {p n s:Int}(h:lgOk p n s=true):aV .mul .i64 p 16=p*16/\aV .add .i64 (aV .mul .i64 p 16) s=p*16+s/\aV .sub .i64 (aV .add .i64 (aV .mul .i64 p 16) s) 1=p*16+s-1:=by
 have t:=fH h;have b:=gK t.1;have q:=bh.1 t.1;have e1:aV .mul .i64 p 16=p*16:=zK (by omega);have e2:aV .add .i64 (p*16) s=p*16+s:=aB (by omega);have e3:aV .sub .i64 (p*16+s) 1=p*16+s-1:=cH (by omega);rw[e1,e2,e3];exact⟨rfl,rfl,rfl⟩
theorem LC {p n s a:Int}:lhB p n s a=true↔lgOk p n s=true/\p*16<=a/\a<=p*16+s-1:=by unfold lhB;rw[Bool.and_eq_true,bh]
theorem JD {p n s a:Int}(h:lhB p n s a=true):aV .sub .i64 a (aV .mul .i64 p 16)=loI p n s a:=by
 obtain⟨h1,h2,h3⟩:=LC.1 h;have t:=fH h1;have b:=gK t.1;have q:=bh.1 t.1;rw[(ET h1).1,LG h];exact cH (by omega)
end Go.V
namespace Go.V
def fB (l:List Int):List (List L):=l.map fun x=>[.v (.int .i64 x)]
theorem bO {l:List Int}:(fB l).length=l.length:=by unfold fB;rw[List.length_map]
theorem eg {a b:List Int}:fB (a++b)=fB a++fB b:=by unfold fB;rw[List.map_append]
theorem oy {l:List Int}{k:Nat}(h:k<l.length):ab (fB l) k 0=l[k]:=by
 have e:(fB l).getD k []=[.v (.int .i64 l[k])]:=by
  unfold fB;rw[List.getD_eq_getElem?_getD,List.getElem?_map,List.getElem?_eq_getElem h];rfl
 unfold ab;rw[Int.toNat_natCast,e];rfl
theorem kC {l:List Int}{x:Int}:hasB (fB l) x=true↔x∈l:=by
 rw[jt]
 constructor
 ·rintro⟨k,hk,e⟩;rw[bO]at hk;rw[oy hk]at e;rw[<-e];exact List.getElem_mem hk
 ·intro h;obtain⟨k,hk,e⟩:=List.getElem_of_mem h;exact⟨k,by rw[bO];exact hk,by rw[oy hk];exact e⟩
theorem qR {l:List Int}{x:Int}(h:hasB (fB l) x=false):x∉l:=fun m=>by rw[kC.2 m]at h;cases h
theorem oz {l:List Int}(h:∀ x∈l,-9223372036854775808<=x/\x<=9223372036854775807)(hl:l.length<=70368744177664):Rw [tI] (fB l):=by
 refine⟨by rw[bO];unfold maxLen;omega,fun e he=>?_⟩;obtain⟨x,hx,rfl⟩:=List.mem_map.1 he;have q:=h x hx;exact⟨⟨rfl,by show-9223372036854775808<=x/\x<=(9223372036854775807:Int);exact q⟩,trivial⟩
theorem K6 {l:List (List L)}{x i:Int}(h:upto (bV (C9 l x)) i)(hi:(l.length:Int)<=i):hasB l x=false:=by
 unfold hasB idxI;rw[dn h hi];rfl
def Kr (sp:List (List L))(i:Int):Bool:=spOk (ab sp i 0) (ab sp i 1) (ab sp i 2)
def LA (lg:List (List L))(i:Int):Bool:=lgOk (ab lg i 0) (ab lg i 1) (ab lg i 2)
def hL (sp:List (List L)):Nat->List Int
 |0=>[]
 |n+1=>hL sp n++[ab sp n 0]
def kI (p:Int):Nat->List Int
 |0=>[]
 |n+1=>kI p n++[p+n]
def hK (lg:List (List L)):Nat->List Int
 |0=>[]
 |n+1=>hK lg n++kI (ab lg n 0) (ab lg n 1).toNat
def qX (sp lg:List (List L)):List Int:=hL sp sp.length++hK lg lg.length
def layOk (sp lg:List (List L)):Bool:=(bM (Kr sp) sp.length&&bM (LA lg) lg.length)&&decide (qX sp lg).Nodup
theorem ko {sp:List (List L)}{i:Int}(h:0<=i):hL sp (i+1).toNat=hL sp i.toNat++[ab sp i 0]:=by
 rw[show(i+1).toNat=i.toNat+1 from by omega,hL,Int.toNat_of_nonneg h]
theorem lE {lg:List (List L)}{i:Int}(h:0<=i):hK lg (i+1).toNat=hK lg i.toNat++kI (ab lg i 0) (ab lg i 1).toNat:=by
 rw[show(i+1).toNat=i.toNat+1 from by omega,hK,Int.toNat_of_nonneg h]
theorem tj {p i:Int}(h:0<=i):kI p (i+1).toNat=kI p i.toNat++[p+i]:=by
 rw[show(i+1).toNat=i.toNat+1 from by omega,kI,Int.toNat_of_nonneg h]
theorem kL {sp:List (List L)}:∀ {n:Nat},(hL sp n).length=n
 |0=>rfl
 |n+1=>by rw[hL,List.length_append,kL];rfl
theorem mO {p:Int}:∀ {n:Nat},(kI p n).length=n
 |0=>rfl
 |n+1=>by rw[kI,List.length_append,mO];rfl
theorem Cl {sp:List (List L)}:∀ (m n:Nat),n<=m->∃ r,hL sp m=hL sp n++r
 |0,n,h=>⟨[],by rw[show n=0 by omega];rfl⟩
 | m+1,n,h=>by
   by_cases c:n=m+1
   ·subst c;exact⟨[],by simp⟩
   ·obtain⟨r,e⟩:=Cl (sp:=sp) m n (by omega);exact⟨r++[ab sp m 0],by rw[hL,e,List.append_assoc]⟩
theorem BP {p:Int}:∀ (m n:Nat),n<=m->∃ r,kI p m=kI p n++r
 |0,n,h=>⟨[],by rw[show n=0 by omega];rfl⟩
 | m+1,n,h=>by
   by_cases c:n=m+1
   ·subst c;exact⟨[],by simp⟩
   ·obtain⟨r,e⟩:=BP (p:=p) m n (by omega);exact⟨r++[p+m],by rw[kI,e,List.append_assoc]⟩
theorem Bh {lg:List (List L)}:∀ (m n:Nat),n<=m->∃ r,hK lg m=hK lg n++r
 |0,n,h=>⟨[],by rw[show n=0 by omega];rfl⟩
 | m+1,n,h=>by
   by_cases c:n=m+1
   ·subst c;exact⟨[],by simp⟩
   ·obtain⟨r,e⟩:=Bh (lg:=lg) m n (by omega);exact⟨r++kI (ab lg m 0) (ab lg m 1).toNat,by rw[hK,e,List.append_assoc]⟩
theorem dup {a b l:List Int}{x:Int}(h:l=a++x::b)(hm:x∈a):¬ l.Nodup:=by
 rw[h,List.nodup_append];rintro⟨_,_,q⟩;exact q x hm x (by simp) rfl
theorem gS {a:List Int}{x:Int}(h:a.Nodup)(hx:x∉a):(a++[x]).Nodup:=by
 rw[List.nodup_append];exact⟨h,by simp,fun y hy z hz e=>by simp at hz;subst hz;subst e;exact hx hy⟩
theorem Bb {sp lg:List (List L)}{i:Int}(h0:0<=i)(h1:i<sp.length)(h:spOk (ab sp i 0) (ab sp i 1) (ab sp i 2)=false):layOk sp lg=false:=by
 unfold layOk;rw[be h0 h1 h];rfl
theorem Bc {sp lg:List (List L)}{i:Int}(h0:0<=i)(h1:i<lg.length)(h:lgOk (ab lg i 0) (ab lg i 1) (ab lg i 2)=false):layOk sp lg=false:=by
 unfold layOk;rw[be (p:=LA lg) h0 h1 h,Bool.and_false];rfl
theorem Bd {sp lg:List (List L)}{i:Int}(h0:0<=i)(h1:i<sp.length)(h:ab sp i 0∈hL sp i.toNat):layOk sp lg=false:=by
 obtain⟨r,e⟩:=Cl (sp:=sp) sp.length (i+1).toNat (by omega);rw[ko h0,List.append_assoc]at e;have:¬ (qX sp lg).Nodup:=dup (a:=hL sp i.toNat) (b:=r++hK lg lg.length) (x:=ab sp i 0) (by unfold qX;rw[e,List.append_assoc];rfl) h;unfold layOk;rw[decide_eq_false this,Bool.and_false]
theorem Be {sp lg:List (List L)}{i k:Int}(h0:0<=i)(h1:i<lg.length)(k0:0<=k)(k1:k<ab lg i 1)(h:ab lg i 0+k∈hL sp sp.length++hK lg i.toNat++kI (ab lg i 0) k.toNat):layOk sp lg=false:=by
 obtain⟨r,e⟩:=Bh (lg:=lg) lg.length (i+1).toNat (by omega);obtain⟨r2,e2⟩:=BP (p:=ab lg i 0) (ab lg i 1).toNat (k+1).toNat (by omega);rw[lE h0,e2,tj k0]at e;have:¬ (qX sp lg).Nodup:=dup (a:=hL sp sp.length++hK lg i.toNat++kI (ab lg i 0) k.toNat) (b:=r2++r) (x:=ab lg i 0+k) (by unfold qX;rw[e];simp only[List.append_assoc];rfl) h;unfold layOk;rw[decide_eq_false this,Bool.and_false]
theorem Bf {sp lg:List (List L)}{i j:Int}(h:upto (Kr sp) i)(hi:(sp.length:Int)<=i)(h2:upto (LA lg) j)(hj:(lg.length:Int)<=j)(hn:(qX sp lg).Nodup):layOk sp lg=true:=by
 unfold layOk;rw[aT h hi,aT h2 hj,decide_eq_true hn];rfl
theorem EJ {sp lg:List (List L)}(h:layOk sp lg=true):(∀ i:Int,0<=i->i<sp.length->spOk (ab sp i 0) (ab sp i 1) (ab sp i 2)=true)/\(∀ i:Int,0<=i->i<lg.length->lgOk (ab lg i 0) (ab lg i 1) (ab lg i 2)=true)/\(qX sp lg).Nodup:=by
 unfold layOk at h;simp only[Bool.and_eq_true,decide_eq_true_eq]at h;exact⟨cE.1 h.1.1,cE.1 h.1.2,h.2⟩
def MP (es:List (List L)):Prop:=∀ e∈es,∃ (k:Int) (b:Bool),e=[.v (.int .i64 k),.v (.bool b)]
theorem sX {k:Int}{b:Bool}{es:List (List L)}{n:Int}:cY ([.v (.int .i64 k),.v (.bool b)]::es) n=if k=n then some (0,.bool b)else(cY es n).map fun p=>(p.1+1,p.2):=rfl
theorem j8 {k:Int}{b:Bool}{es:List (List L)}{n:Int}:mgbI ([.v (.int .i64 k),.v (.bool b)]::es) n=if k=n then b else mgbI es n:=by
 unfold mgbI;rw[sX];by_cases c:k=n
 ·rw[if_pos c,if_pos c]
 ·rw[if_neg c,if_neg c];cases cY es n with
  |none=>rfl
  |some p=>obtain⟨j,v⟩:=p;cases v<;>rfl
theorem Bt {k:Int}{b x:Bool}{es:List (List L)}{n:Int}:iB ([.v (.int .i64 k),.v (.bool b)]::es) n (.v (.bool x))=if k=n then[.v (.int .i64 n),.v (.bool x)]::es else[.v (.int .i64 k),.v (.bool b)]::iB es n (.v (.bool x)):=by
 unfold iB;rw[sX];by_cases c:k=n
 ·rw[if_pos c,if_pos c];rfl
 ·rw[if_neg c,if_neg c];cases cY es n with
  |none=>rfl
  |some p=>rfl
theorem Rv {x:Bool}{n:Int}:∀ {es:List (List L)},MP es->MP (iB es n (.v (.bool x)))/\∀ m,mgbI (iB es n (.v (.bool x))) m=if m=n then x else mgbI es m
 | [],_=>by
   refine⟨fun e he=>?_,fun m=>?_⟩
   ·have:e=[.v (.int .i64 n),.v (.bool x)]:=by simpa[iB,cY]using he
    exact⟨n,x,this⟩
   ·show mgbI [[.v (.int .i64 n),.v (.bool x)]] m=_;rw[j8];by_cases c:m=n
    ·rw[if_pos c.symm,if_pos c]
    ·rw[if_neg (fun e=>c e.symm),if_neg c]
 | e::es,h=>by
   obtain⟨k,b,rfl⟩:=h e (by simp);have h':MP es:=fun e he=>h e (by simp[he])
   obtain⟨a1,a2⟩:=Rv (x:=x) (n:=n) h';rw[Bt];by_cases c:k=n
   ·rw[if_pos c];refine⟨fun e he=>?_,fun m=>?_⟩
    ·rcases List.mem_cons.1 he with rfl|he
     ·exact⟨n,x,rfl⟩
     ·exact h' e he
    ·rw[j8,j8];by_cases d:m=n
     ·rw[if_pos d.symm,if_pos d]
     ·rw[if_neg (fun e=>d e.symm),if_neg d,if_neg (fun e=>d (by rw[<-e,c]))]
   ·rw[if_neg c];refine⟨fun e he=>?_,fun m=>?_⟩
    ·rcases List.mem_cons.1 he with rfl|he
     ·exact⟨k,b,rfl⟩
     ·exact a1 e he
    ·rw[j8,j8,a2 m];by_cases d:k=m
     ·rw[if_pos d,if_pos d,if_neg (fun e=>c (d.trans e))]
     ·rw[if_neg d,if_neg d]
def muT (es:List (List L))(n:Int):List (List L):=iB es n (.v (.bool true))
structure kV (es:List (List L))(l:List Int):Prop where
 wf:MP es
 at_:∀ m,mgbI es m=true↔m∈l
theorem Ae :kV [] []:=⟨(fun e he=>by cases he),fun m=>by simp[mgbI,cY]⟩
theorem ra {es:List (List L)}{l:List Int}{n:Int}(h:kV es l):kV (iB es n (.v (.bool true))) (l++[n]):=by
 have q:=Rv (x:=true) (n:=n) h.wf;refine⟨q.1,fun m=>?_⟩;rw[q.2 m];by_cases c:m=n
 ·rw[if_pos c];simp[c]
 ·rw[if_neg c,h.at_ m];simp[c]
def one (x:Int):List (List L):=[[.v (.int .i64 x)]]
structure GX (sp:List (List L))(i:Int)(o:List (List L)):Prop where
 e:o=fB (hL sp i.toNat)
 nd:(hL sp i.toNat).Nodup
 ok:upto (Kr sp) i
 b:∀ x∈hL sp i.toNat,0<=x/\x<=64
structure MH (sp lg:List (List L))(j:Int)(o:List (List L)):Prop where
 e:o=fB (hL sp sp.length++hK lg j.toNat)
 nd:(hL sp sp.length++hK lg j.toNat).Nodup
 oks:upto (Kr sp) sp.length
 ok:upto (LA lg) j
 b:∀ x∈hL sp sp.length++hK lg j.toNat,0<=x/\x<=64
 l:(hK lg j.toNat).length<=64*j.toNat
structure GW (sp lg:List (List L))(j k:Int)(o:List (List L)):Prop where
 e:o=fB (hL sp sp.length++hK lg j.toNat++kI (ab lg j 0) k.toNat)
 nd:(hL sp sp.length++hK lg j.toNat++kI (ab lg j 0) k.toNat).Nodup
 oks:upto (Kr sp) sp.length
 ok:upto (LA lg) j
 b:∀ x∈hL sp sp.length++hK lg j.toNat++kI (ab lg j 0) k.toNat,0<=x/\x<=64
 l:(hK lg j.toNat).length<=64*j.toNat
theorem Du {l:List Int}(h:∀ x∈l,0<=x/\x<=64)(hl:l.length<=70368744177664):Rw [tI] (fB l):=oz (fun x hx=>by have:=h x hx;omega) hl
theorem xK {l:List Int}{x:Int}(h:∀ x∈l,0<=x/\x<=64)(hx:0<=x/\x<=64):∀ y∈l++[x],0<=y/\y<=64:=by
 intro y hy;rcases List.mem_append.1 hy with q|q
 ·exact h y q
 ·simp at q;rw[q];exact hx
theorem QI {sp:List (List L)}:GX sp 0 []:=⟨rfl,List.nodup_nil,aL,fun x hx=>by cases hx⟩
theorem EW {sp o:List (List L)}{i:Int}(h:GX sp i o):o.length=i.toNat:=by rw[h.e,bO,kL]
theorem Oa {sp o:List (List L)}{i:Int}(h:GX sp i o)(hi:i<=1073741824):Rw [tI] o:=by
 have l:=EW h;have e:=h.e;rw[e,bO]at l;rw[e];exact Du h.b (by omega)
theorem LH {sp lg o:List (List L)}{i:Int}(h:GX sp i o)(h0:0<=i)(h1:i<sp.length)(hh:hasB o (ab sp i 0)=true):layOk sp lg=false:=by
 rw[h.e,kC]at hh;exact Bd h0 h1 hh
theorem Ob {sp o:List (List L)}{i:Int}(h:GX sp i o)(h0:0<=i)(hs:spOk (ab sp i 0) (ab sp i 1) (ab sp i 2)=true)(hh:hasB o (ab sp i 0)=false):GX sp (i+1) (o++[[.v (.int .i64 (ab sp i 0))]]):=by
 have t:=fe hs;have e:=h.e;rw[e]at hh;have hm:=qR hh;exact⟨by rw[ko h0,eg,e];rfl,by rw[ko h0];exact gS h.nd hm,ax h.ok hs,by rw[ko h0];exact xK h.b (by omega)⟩
theorem LI {sp lg o:List (List L)}{i:Int}(h:GX sp i o)(h1:i<=sp.length)(h2:(sp.length:Int)<=i):MH sp lg 0 o:=by
 have e:i.toNat=sp.length:=by omega
 have ei:i=sp.length:=by omega
 have q1:=h.e;have q2:=h.nd;have q3:=h.ok;have q4:=h.b;rw[e]at q1 q2 q4;rw[ei]at q3;exact⟨by rw[q1];simp[hK],by simpa[hK]using q2,q3,aL,by simpa[hK]using q4,by simp[hK]⟩
theorem QH {sp lg o:List (List L)}{j:Int}(h:MH sp lg j o):GW sp lg j 0 o:=by
 refine⟨by rw[h.e];simp[kI],by simpa[kI]using h.nd,h.oks,h.ok,by simpa[kI]using h.b,h.l⟩
theorem EV {sp lg o:List (List L)}{j k:Int}(h:GW sp lg j k o):o.length<=sp.length+64*j.toNat+k.toNat:=by
 have l:=h.l;rw[h.e,bO,List.length_append,List.length_append,kL,mO];omega
theorem N7 {sp lg o:List (List L)}{j k:Int}(h:GW sp lg j k o)(h1:sp.length<=1073741824)(h2:j<=1073741824)(h3:k<=64):Rw [tI] o:=by
 have l:=EV h;have e:=h.e;rw[e,bO]at l;rw[e];exact Du h.b (by omega)
theorem LD {sp lg o:List (List L)}{j k:Int}(h:GW sp lg j k o)(h0:0<=j)(h1:j<lg.length)(k0:0<=k)(k1:k<ab lg j 1)(hh:hasB o (ab lg j 0+k)=true):layOk sp lg=false:=by
 rw[h.e,kC]at hh;exact Be h0 h1 k0 k1 hh
theorem N6 {p n s k:Int}(h:lgOk p n s=true)(k0:0<=k)(k1:k<n):0<=p/\p+k<=32/\aV .add .i64 p k=p+k/\1<=n/\n<=32:=by
 have t:=fH h;have b:=gK t.1;have e:aV .add .i64 p k=p+k:=aB (by omega);exact⟨by omega,by omega,e,by omega,by omega⟩
theorem N8 {sp lg o:List (List L)}{j k:Int}(h:GW sp lg j k o)(k0:0<=k)(hx:0<=ab lg j 0+k/\ab lg j 0+k<=64)(hh:hasB o (ab lg j 0+k)=false):GW sp lg j (k+1) (o++[[.v (.int .i64 (ab lg j 0+k))]]):=by
 have e:=h.e;rw[e]at hh;have hm:=qR hh;have q:∀ A:List Int,A++kI (ab lg j 0) (k+1).toNat=A++kI (ab lg j 0) k.toNat++[ab lg j 0+k]:=fun A=>by rw[tj k0,List.append_assoc]
 exact⟨by rw[q,eg,e];rfl,by rw[q];exact gS h.nd hm,h.oks,h.ok,by rw[q];exact xK h.b hx,h.l⟩
theorem LE {sp lg o:List (List L)}{j k:Int}(h:GW sp lg j k o)(j0:0<=j)(hl:lgOk (ab lg j 0) (ab lg j 1) (ab lg j 2)=true)(k0:0<=k)(k1:k<=ab lg j 1)(k2:ab lg j 1<=k):MH sp lg (j+1) o:=by
 have t:=fH hl;have b:=gK t.1;have ek:k.toNat=(ab lg j 1).toNat:=by omega
 have q1:=h.e;have q2:=h.nd;have q4:=h.b;have q5:=h.l;rw[ek,List.append_assoc, <-lE j0]at q1 q2 q4;refine⟨q1,q2,h.oks,ax h.ok hl,q4,?_⟩;rw[lE j0,List.length_append,mO];omega
theorem LF {sp lg o:List (List L)}{j:Int}(h:MH sp lg j o)(j1:j<=lg.length)(j2:(lg.length:Int)<=j):layOk sp lg=true:=by
 have e:j.toNat=lg.length:=by omega
 have q:=h.nd;rw[e]at q;exact Bf h.oks (Int.le_refl _) h.ok j2 q
end Go.V
namespace Go.V
structure KD (sp:List (List L))(i:Int)(es:List (List L)):Prop where
 s:kV es (hL sp i.toNat)
 nd:(hL sp i.toNat).Nodup
 ok:upto (Kr sp) i
structure MG (sp lg:List (List L))(j:Int)(es:List (List L)):Prop where
 s:kV es (hL sp sp.length++hK lg j.toNat)
 nd:(hL sp sp.length++hK lg j.toNat).Nodup
 oks:upto (Kr sp) sp.length
 ok:upto (LA lg) j
structure KB (sp lg:List (List L))(j k:Int)(es:List (List L)):Prop where
 s:kV es (hL sp sp.length++hK lg j.toNat++kI (ab lg j 0) k.toNat)
 nd:(hL sp sp.length++hK lg j.toNat++kI (ab lg j 0) k.toNat).Nodup
 oks:upto (Kr sp) sp.length
 ok:upto (LA lg) j
theorem Gg {es:List (List L)}{l:List Int}{n:Int}(h:kV es l)(e:mgbI es n=false):n∉l:=fun m=>by rw[(h.at_ n).2 m]at e;cases e
theorem QB {sp:List (List L)}:KD sp 0 []:=⟨Ae,List.nodup_nil,aL⟩
theorem Lv {sp lg es:List (List L)}{i:Int}(h:KD sp i es)(h0:0<=i)(h1:i<sp.length)(hh:mgbI es (ab sp i 0)=true):layOk sp lg=false:=
 Bd h0 h1 ((h.s.at_ _).1 hh)
theorem NZ {sp es:List (List L)}{i:Int}(h:KD sp i es)(h0:0<=i)(hs:spOk (ab sp i 0) (ab sp i 1) (ab sp i 2)=true)(hh:mgbI es (ab sp i 0)=false):KD sp (i+1) (muT es (ab sp i 0)):=
 ⟨by rw[ko h0];exact ra h.s,by rw[ko h0];exact gS h.nd (Gg h.s hh),ax h.ok hs⟩
theorem Lw {sp lg es:List (List L)}{i:Int}(h:KD sp i es)(h1:i<=sp.length)(h2:(sp.length:Int)<=i):MG sp lg 0 es:=by
 have e:i.toNat=sp.length:=by omega
 have ei:i=sp.length:=by omega
 have q1:=h.s;have q2:=h.nd;have q3:=h.ok;rw[e]at q1 q2;rw[ei]at q3;exact⟨by simpa[hK]using q1,by simpa[hK]using q2,q3,aL⟩
theorem QA {sp lg es:List (List L)}{j:Int}(h:MG sp lg j es):KB sp lg j 0 es:=
 ⟨by simpa[kI]using h.s,by simpa[kI]using h.nd,h.oks,h.ok⟩
theorem Lp {sp lg es:List (List L)}{j k:Int}(h:KB sp lg j k es)(h0:0<=j)(h1:j<lg.length)(k0:0<=k)(k1:k<ab lg j 1)(hh:mgbI es (ab lg j 0+k)=true):layOk sp lg=false:=
 Be h0 h1 k0 k1 ((h.s.at_ _).1 hh)
theorem NY {sp lg es:List (List L)}{j k:Int}(h:KB sp lg j k es)(k0:0<=k)(hh:mgbI es (ab lg j 0+k)=false):KB sp lg j (k+1) (muT es (ab lg j 0+k)):=by
 have q:∀ A:List Int,A++kI (ab lg j 0) (k+1).toNat=A++kI (ab lg j 0) k.toNat++[ab lg j 0+k]:=fun A=>by rw[tj k0,List.append_assoc]
 exact⟨by rw[q];exact ra h.s,by rw[q];exact gS h.nd (Gg h.s hh),h.oks,h.ok⟩
theorem Lq {sp lg es:List (List L)}{j k:Int}(h:KB sp lg j k es)(j0:0<=j)(hl:lgOk (ab lg j 0) (ab lg j 1) (ab lg j 2)=true)(k1:k<=ab lg j 1)(k2:ab lg j 1<=k):MG sp lg (j+1) es:=by
 have ek:k.toNat=(ab lg j 1).toNat:=by omega
 have q1:=h.s;have q2:=h.nd;rw[ek,List.append_assoc, <-lE j0]at q1 q2;exact⟨q1,q2,h.oks,ax h.ok hl⟩
theorem Lr {sp lg es:List (List L)}{j:Int}(h:MG sp lg j es)(j1:j<=lg.length)(j2:(lg.length:Int)<=j):layOk sp lg=true:=by
 have e:j.toNat=lg.length:=by omega
 have q:=h.nd;rw[e]at q;exact Bf h.oks (Int.le_refl _) h.ok j2 q
theorem OH {b:Bool}(h:(!b)=false):b=true:=by cases b<;>simp_all
theorem OI {b:Bool}(h:(!b)=true):b=false:=by cases b<;>simp_all
end Go.V
namespace Go.V
def tX (sp:List (List L))(a i:Int):Bool:=decide (0<=saS (ab sp i 0) (ab sp i 1) (ab sp i 2) a)
def uL (lg:List (List L))(a i:Int):Bool:=lhB (ab lg i 0) (ab lg i 1) (ab lg i 2) a
def eS (sp:List (List L))(a:Int):Int:=cF (tX sp a) sp.length
def j4 (lg:List (List L))(a:Int):Int:=cF (uL lg a) lg.length
def Ih (sp:List (List L))(a i:Int):Int:=saS (ab sp i 0) (ab sp i 1) (ab sp i 2) a
def Kq (sp:List (List L))(a i:Int):Int:=saO (ab sp i 0) (ab sp i 1) (ab sp i 2) a
def N9 (lg:List (List L))(a i:Int):Int:=loI (ab lg i 0) (ab lg i 1) (ab lg i 2) a
def dnK (sp lg:List (List L))(a:Int):Int:=if 0<=eS sp a then(if hsB (ab sp (eS sp a) 2) (Ih sp a (eS sp a))then 1 else 2)else if 0<=j4 lg a then 3 else 0
def dnI (sp lg:List (List L))(a:Int):Int:=if 0<=eS sp a then eS sp a else if 0<=j4 lg a then j4 lg a else 0
def dnS (sp:List (List L))(a:Int):Int:=if 0<=eS sp a then Ih sp a (eS sp a)else 0
def dnO (sp lg:List (List L))(a:Int):Int:=if 0<=eS sp a then Kq sp a (eS sp a)else if 0<=j4 lg a then N9 lg a (j4 lg a)else 0
def dzK (sp lg:List (List L))(a:Int):Int:=if layOk sp lg then dnK sp lg a else 0
def dzI (sp lg:List (List L))(a:Int):Int:=if layOk sp lg then dnI sp lg a else 0
def dzS (sp lg:List (List L))(a:Int):Int:=if layOk sp lg then dnS sp a else 0
def dzO (sp lg:List (List L))(a:Int):Int:=if layOk sp lg then dnO sp lg a else 0
theorem PN {sp:List (List L)}{a i:Int}(h:upto (bV (tX sp a)) i)(hs:saS (ab sp i 0) (ab sp i 1) (ab sp i 2) a<0):upto (bV (tX sp a)) (i+1):=
 ax h (by unfold bV tX;rw[decide_eq_false (by omega)];rfl)
theorem N1 {lg:List (List L)}{a i:Int}(h:upto (bV (uL lg a)) i)(hs:lhB (ab lg i 0) (ab lg i 1) (ab lg i 2) a=false):upto (bV (uL lg a)) (i+1):=
 ax h (by unfold bV uL;rw[hs];rfl)
theorem Jl {sp:List (List L)}{a i:Int}(h:upto (bV (tX sp a)) i)(h0:0<=i)(h1:i<sp.length)(hs:0<=saS (ab sp i 0) (ab sp i 1) (ab sp i 2) a):eS sp a=i:=
 dm h h0 h1 (decide_eq_true hs)
theorem Jm {sp:List (List L)}{a i:Int}(h:upto (bV (tX sp a)) i)(h1:(sp.length:Int)<=i):eS sp a= -1:=dn h h1
theorem Nq {lg:List (List L)}{a i:Int}(h:upto (bV (uL lg a)) i)(h0:0<=i)(h1:i<lg.length)(hs:lhB (ab lg i 0) (ab lg i 1) (ab lg i 2) a=true):j4 lg a=i:=
 dm h h0 h1 hs
theorem Nr {lg:List (List L)}{a i:Int}(h:upto (bV (uL lg a)) i)(h1:(lg.length:Int)<=i):j4 lg a= -1:=dn h h1
def L5 (k i s o:Int):List DV:=[DV.agg [.v (.int .i64 k),.v (.int .i64 i),.v (.int .i64 s),.v (.int .i64 o)]]
def GN (sp lg:List (List L))(a:Int):List DV:=L5 (dnK sp lg a) (dnI sp lg a) (dnS sp a) (dnO sp lg a)
def P4 (sp lg:List (List L))(a:Int):List DV:=L5 (dzK sp lg a) (dzI sp lg a) (dzS sp lg a) (dzO sp lg a)
theorem Rz {sp lg:List (List L)}{a i:Int}(h:upto (bV (tX sp a)) i)(h0:0<=i)(h1:i<sp.length)(hs:0<=saS (ab sp i 0) (ab sp i 1) (ab sp i 2) a)(hh:hsB (ab sp i 2) (saS (ab sp i 0) (ab sp i 1) (ab sp i 2) a)=true):
 L5 1 i (saS (ab sp i 0) (ab sp i 1) (ab sp i 2) a) (saO (ab sp i 0) (ab sp i 1) (ab sp i 2) a)=GN sp lg a:=by
 have e:=Jl h h0 h1 hs;unfold GN dnK dnI dnS dnO Ih Kq;rw[e,if_pos h0,if_pos h0,if_pos h0,if_pos h0,hh];rfl
theorem RA {sp lg:List (List L)}{a i:Int}(h:upto (bV (tX sp a)) i)(h0:0<=i)(h1:i<sp.length)(hs:0<=saS (ab sp i 0) (ab sp i 1) (ab sp i 2) a)(hh:hsB (ab sp i 2) (saS (ab sp i 0) (ab sp i 1) (ab sp i 2) a)=false):
 L5 2 i (saS (ab sp i 0) (ab sp i 1) (ab sp i 2) a) (saO (ab sp i 0) (ab sp i 1) (ab sp i 2) a)=GN sp lg a:=by
 have e:=Jl h h0 h1 hs;unfold GN dnK dnI dnS dnO Ih Kq;rw[e,if_pos h0,if_pos h0,if_pos h0,if_pos h0,hh];rfl
theorem RB {sp lg:List (List L)}{a i j:Int}(h:upto (bV (tX sp a)) i)(h1:(sp.length:Int)<=i)(g:upto (bV (uL lg a)) j)(j0:0<=j)(j1:j<lg.length)(hh:lhB (ab lg j 0) (ab lg j 1) (ab lg j 2) a=true):
 L5 3 j 0 (loI (ab lg j 0) (ab lg j 1) (ab lg j 2) a)=GN sp lg a:=by
 have e:=Jm h h1;have f:=Nq g j0 j1 hh;have n:¬ (0:Int)<= -1:=by omega
 unfold GN dnK dnI dnS dnO N9;rw[e,f,if_neg n,if_neg n,if_neg n,if_neg n,if_pos j0,if_pos j0,if_pos j0]
theorem RD {sp lg:List (List L)}{a i j:Int}(h:upto (bV (tX sp a)) i)(h1:(sp.length:Int)<=i)(g:upto (bV (uL lg a)) j)(j1:(lg.length:Int)<=j):
 L5 0 0 0 0=GN sp lg a:=by
 have e:=Jm h h1;have f:=Nr g j1;have n:¬ (0:Int)<= -1:=by omega
 unfold GN dnK dnI dnS dnO;rw[e,f,if_neg n,if_neg n,if_neg n,if_neg n,if_neg n,if_neg n,if_neg n]
theorem Hm {sp lg:List (List L)}{a:Int}(h:layOk sp lg=true):GN sp lg a=P4 sp lg a:=by
 unfold P4 GN dzK dzI dzS dzO;rw[if_pos h,if_pos h,if_pos h,if_pos h]
theorem Qk {sp lg:List (List L)}{a:Int}(h:layOk sp lg=false):L5 0 0 0 0=P4 sp lg a:=by
 have n:¬ layOk sp lg=true:=by rw[h];decide
 unfold P4 dzK dzI dzS dzO;rw[if_neg n,if_neg n,if_neg n,if_neg n]
end Go.V
namespace Go.V
def qC (sp lg:List (List L))(a:Int):Bool:=decide (dzO sp lg a=0)&&(decide (dzK sp lg a=1)||decide (dzK sp lg a=3))
def GP (sp lg:List (List L)):Nat->List (List L)
 |0=>[]
 |n+1=>GP sp lg n++(if qC sp lg n then[[.v (.int .i64 n)]]else[])
def laL (sp lg:List (List L)):List (List L):=if layOk sp lg then GP sp lg 512 else[]
structure GV (sp lg:List (List L))(i:Int)(o:List (List L)):Prop where
 e:o=GP sp lg i.toNat
 l:o.length<=i.toNat
 y:0<i->layOk sp lg=true
theorem QC {sp lg:List (List L)}:GV sp lg 0 []:=⟨rfl,Nat.le_refl _,fun h=>absurd h (by omega)⟩
theorem EG {sp lg:List (List L)}{i:Int}(h:0<=i):GP sp lg (i+1).toNat=GP sp lg i.toNat++(if qC sp lg i then[[.v (.int .i64 i)]]else[]):=by
 rw[show(i+1).toNat=i.toNat+1 from by omega,GP,Int.toNat_of_nonneg h]
theorem EI {sp lg o:List (List L)}{i:Int}(h:GV sp lg i o)(h0:0<=i)(hl:layOk sp lg=true)(hv:qC sp lg i=true):GV sp lg (i+1) (o++[[.v (.int .i64 i)]]):=by
 have e:=h.e;have l:=h.l;refine⟨by rw[EG h0,if_pos hv, <-e],?_,fun _=>hl⟩;rw[List.length_append,List.length_cons,List.length_nil];omega
theorem Jx {sp lg o:List (List L)}{i:Int}(h:GV sp lg i o)(h0:0<=i)(hl:layOk sp lg=true)(hv:qC sp lg i=false):GV sp lg (i+1) o:=by
 have e:=h.e;have l:=h.l;refine⟨by rw[EG h0,hv, <-e];simp,?_,fun _=>hl⟩;omega
theorem Ly {sp lg o:List (List L)}{i:Int}(h:GV sp lg i o)(h1:i<=512)(h2:512<=i):o=laL sp lg:=by
 have e:i=512:=by omega
 subst e;unfold laL;rw[if_pos (h.y (by omega))];exact h.e
theorem Lx {sp lg o:List (List L)}{i:Int}(h:GV sp lg i o)(h0:0<=i)(hl:layOk sp lg=false):o=laL sp lg:=by
 have z:i=0:=by
  by_cases c:0<i
  ·have:=h.y c;rw[hl]at this;cases this
  ·omega
 subst z;unfold laL;rw[hl];exact h.e
theorem Of {sp lg:List (List L)}{a:Int}(h:dzO sp lg a=0)(k:dzK sp lg a=1):qC sp lg a=true:=by unfold qC;rw[h,k];rfl
theorem Og {sp lg:List (List L)}{a:Int}(h:dzO sp lg a=0)(k:dzK sp lg a=3):qC sp lg a=true:=by unfold qC;rw[h,k];rfl
theorem Oc {sp lg:List (List L)}{a:Int}(h:dzO sp lg a≠0):qC sp lg a=false:=by unfold qC;rw[decide_eq_false h];rfl
theorem Od {sp lg:List (List L)}{a:Int}(h:dzK sp lg a≠1)(k:dzK sp lg a≠3):qC sp lg a=false:=by unfold qC;rw[decide_eq_false h,decide_eq_false k,Bool.or_false,Bool.and_false]
theorem eQ {a b:List (List L)}(h:a=b):[DV.one (.s 1 a)]=[DV.one (.s 1 b)]:=by rw[h]
end Go.V