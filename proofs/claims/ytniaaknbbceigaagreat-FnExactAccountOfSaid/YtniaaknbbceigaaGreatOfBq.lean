/- Contracts. -/
import Derived.Test.YtniaaknbbceigaaGreatOfAq
set_option linter.all false
namespace Go.V
open Go Go.Proofs
set_option maxRecDepth 1000000
set_option maxHeartbeats 8000000
namespace Ob0
structure av where
 framesOk:aa->aa->Bool
abbrev F0 :av:=⟨framesOk⟩
def ct (F:av):CT:=fun f ds=>match f,ds with
 |166,[.agg [.s 1 cs,.s 1 us]]=>some (fun _=>Rw [.sl [tI]] cs/\Rw [tB] us,[.k (F.framesOk cs us)])
 |167,[.agg [.s 1 cs,.s 1 us]]=>some (fun _=>Rw [.sl [tI]] cs/\Rw [tB] us,[.k (F.framesOk cs us)])
 |_,_=>none
theorem ah :aO (ct F0):=by
 intro f ds pre res h hp;unfold ct at h;split at h<;>cases h
 exact jC hp;exact jx hp
abbrev B :ce:=tb ah
end Ob0
theorem gh {es:aa}(hp:Rw [tI,tI] es/\es.length<=1099511627776):ap 68 [.agg [.s 2 es]] [.j (mpT es)]:=by
 obtain⟨he,hn⟩:=hp;refine cb Ob0.B Tryz.func68 ?_
 intro O r F hO hr hF;cbv
 repeat' first|apply And.intro|(apply be<;>intro hb<;>cbv)|(refine⟨[3,7,8,9],[],Int×Int,fun s_=>match s_ with|(i,n)=>[.reg 9 (.j i),.reg 3 (.j n)],fun s_=>match s_ with|(i,n)=>0<=i/\i<=(es.length:Int)/\n=AD es i.toNat,fun s_=>match s_ with|(i,n)=>es.length-i.toNat,⟨(0,0),?_,?_⟩,?_⟩;rotate_left;(focus (cbv;done));intro s_ hi;obtain⟨i,n⟩:=s_;replace hi:0<=i/\i<=(es.length:Int)/\n=AD es i.toNat:=hi;obtain⟨i0,i1,i2⟩:=hi;cbv)|(refine ab (O.ar .add .i64 i 1,O.ar .add .i64 n 1) ?_ ?_ ?_;focus (cbv;done))|(refine ab (O.ar .add .i64 i 1,n) ?_ ?_ ?_;focus (cbv;done))
 all_goals exact Ra
theorem gx {es:aa}(hp:Rw [tI,tI] es/\es.length<=1099511627776):ap 66 [.agg [.s 2 es]] [.j (mpT es)]:=by
 obtain⟨he,hn⟩:=hp;refine cb Ob0.B Tryz.func66 ?_
 intro O r F hO hr hF;cbv
 repeat' first|apply And.intro|(apply be<;>intro hb<;>cbv)|(refine⟨[1,3,4],[1],Int×Int,fun s_=>match s_ with|(i,n)=>[.reg 4 (.j i),.reg 3 (.j n)],fun s_=>match s_ with|(i,n)=>0<=i/\i<=(es.length:Int)/\n=AD es i.toNat,fun s_=>match s_ with|(i,n)=>es.length-i.toNat,⟨(0,0),?_,?_⟩,?_⟩;rotate_left;(focus (cbv;done));intro s_ hi;obtain⟨i,n⟩:=s_;replace hi:0<=i/\i<=(es.length:Int)/\n=AD es i.toNat:=hi;obtain⟨i0,i1,i2⟩:=hi;cbv)|(refine ab (O.ar .add .i64 i 1,O.ar .add .i64 n 1) ?_ ?_ ?_;focus (cbv;done))|(refine ab (O.ar .add .i64 i 1,n) ?_ ?_ ?_;focus (cbv;done))
 all_goals exact Ra
theorem gT {cs us:aa}(hp:Rw [.sl [tI]] cs/\Rw [tB] us):ap 67 [.agg [.s 1 cs,.s 1 us]] [.j (ufN cs us)]:=by
 obtain⟨hc,hu⟩:=hp;have hm:=hu.1;unfold maxLen at hm;refine cb Ob0.B Tryz.func67 ?_
 intro O r F hO hr hF;cbv
 repeat' first|apply And.intro|(apply be<;>intro hb<;>cbv)|(refine⟨[1,3,4],[1],Int×Int,fun s_=>match s_ with|(i,n)=>[.reg 4 (.j i),.reg 3 (.j n)],fun s_=>match s_ with|(i,n)=>0<=i/\i<=(us.length:Int)/\n=vC us i.toNat/\(i=0\/framesOk cs us=true),fun s_=>match s_ with|(i,n)=>us.length-i.toNat,⟨(0,0),?_,?_⟩,?_⟩;rotate_left;(focus (cbv;done));intro s_ hi;obtain⟨i,n⟩:=s_;replace hi:0<=i/\i<=(us.length:Int)/\n=vC us i.toNat/\(i=0\/framesOk cs us=true):=hi;obtain⟨i0,i1,i2,i3⟩:=hi;cbv)|(refine ab (O.ar .add .i64 i 1,O.ar .add .i64 n 1) ?_ ?_ ?_;focus (cbv;done))|(refine ab (O.ar .add .i64 i 1,n) ?_ ?_ ?_;focus (cbv;done))
 all_goals(subst hO hr hF;(try simp only[nc]at*);(try simp only[ai,SS,sa,az]at*);(try rw[bX (by omega) (by omega)]);(try(have un:=A2 (us:=us) (n:=i.toNat);have en:bu .add .i64 n 1=n+1:=bj (by omega);simp only[en])))
 all_goals first
  | (show(_:List DV)=_
     first
      |exact bJ (Nm i2 i3 (by assumption))
      |exact bJ (i2.trans (Nn i1 (by omega) i3).symm)
      |done)
  |exact⟨hc,hu⟩
  |exact d9
  |omega
  |exact .inr (by assumption)
  |exact .inl trivial
  |(rw[bX (by omega) (by omega),C0 i0 (by assumption), <-i2])
  |(rw[GT i0 (by assumption)];exact i2)
  |exact rfl
  |done
theorem gS {cs us:aa}(hp:Rw [.sl [tI]] cs/\Rw [tB] us):ap 69 [.agg [.s 1 cs,.s 1 us]] [.j (ufN cs us)]:=by
 obtain⟨hc,hu⟩:=hp;have hm:=hu.1;unfold maxLen at hm;refine cb Ob0.B Tryz.func69 ?_
 intro O r F hO hr hF;cbv
 repeat' first|apply And.intro|(apply be<;>intro hb<;>cbv)|(refine⟨[3,10,11,12],[],Int×Int,fun s_=>match s_ with|(i,n)=>[.reg 12 (.j i),.reg 3 (.j n)],fun s_=>match s_ with|(i,n)=>0<=i/\i<=(us.length:Int)/\n=vC us i.toNat,fun s_=>match s_ with|(i,n)=>us.length-i.toNat,⟨(0,0),?_,?_⟩,?_⟩;rotate_left;(focus (cbv;done));intro s_ hi;obtain⟨i,n⟩:=s_;replace hi:0<=i/\i<=(us.length:Int)/\n=vC us i.toNat:=hi;obtain⟨i0,i1,i2⟩:=hi;cbv)|(refine ab (O.ar .add .i64 i 1,O.ar .add .i64 n 1) ?_ ?_ ?_;focus (cbv;done))|(refine ab (O.ar .add .i64 i 1,n) ?_ ?_ ?_;focus (cbv;done))
 all_goals(subst hO hr hF;(try simp only[nc]at*);(try simp only[ai,SS,sa,az]at*);(try rw[bX (by omega) (by omega)]);(try(have un:=A2 (us:=us) (n:=i.toNat);have en:bu .add .i64 n 1=n+1:=bj (by omega);simp only[en])))
 all_goals first
  | (show(_:List DV)=_
     first
      |exact bJ (KR (by assumption)).symm
      |exact bJ (i2.trans (GR (by assumption) i1 (by omega)).symm)
      |done)
  |exact⟨hc,hu⟩
  |exact d9
  |omega
  |(rw[bX (by omega) (by omega),C0 i0 (by assumption), <-i2])
  |(rw[GT i0 (by assumption)];exact i2)
  |exact rfl
  |done
namespace Ob1
structure av where
 machOk:aa->aa->aa->Bool
 peM:aa->Int->Int
 peF:aa->Int->Int
abbrev F0 :av:=⟨machOk,peM,peF⟩
def ct (F:av):CT:=fun f ds=>match f,ds with
 |177,[.agg [.s 1 cs,.s 1 us,.s 2 es]]=>some (fun _=>Rw [.sl [tI]] cs/\Rw [tB] us/\Rw [tI,tI] es,[.k (F.machOk cs us es)])
 |176,[.agg [.s 2 es],.one (.v (.int .i64 p))]=>some (fun _=>Rw [tI,tI] es,[.agg [.i (F.peM es p),.i (F.peF es p)]])
 |72,[.agg [.s 2 es],.one (.v (.int .i64 p))]=>some (fun _=>Rw [tI,tI] es,[.agg [.i (F.peM es p),.i (F.peF es p)]])
 |_,_=>none
theorem ah :aO (ct F0):=by
 intro f ds pre res h hp;unfold ct at h;split at h<;>cases h
 exact eW hp;exact cM hp;exact dR hp
abbrev B :ce:=tb ah
end Ob1
theorem q9 {b0 b1 es:aa}{a:Int}(hp:Rw [tI,tI] es/\(-9223372036854775808<=a/\a<=9223372036854775807)):ap 168 [.agg [.s 1 b0,.s 1 b1,.s 2 es],.j a] [.agg [.i (leM es a),.i (leF es a)],.j (leK a)]:=by
 obtain⟨hw,ha⟩:=hp;have hq:¬ a<0->bu .quo .i64 a 16=a/16:=fun h=>jN (by omega) (by omega) (by omega)
 have hr:¬ a<0->bu .rem .i64 a 16=a%16:=fun h=>wd (by omega)
 refine cb Ob1.B Tryz.func168 ?_
 intro O r F hO hr hF;cbv
 repeat' first|apply And.intro|(apply be<;>intro hb<;>cbv)
 all_goals(subst hO hr hF;(try simp only[nc]at*);(try simp only[ai,SS,sa,az]at*))
 all_goals first|exact D2 (oL (by omega)).1.symm (oL (by omega)).2.1.symm (oL (es:=es) (by omega)).2.2.symm|(rw[hq (by omega),hr (by omega)];exact D2 (iZ (by omega)).1.symm (iZ (by omega)).2.1.symm (iZ (es:=es) (by omega)).2.2.symm)|(first|assumption|exact Rw.sub (by first|assumption|exact Rw.sub (by assumption) (by omega) rfl) (by omega) rfl)|trivial|trace_state
theorem sf {cs us es:aa}{a:Int}(hp:Rw [.sl [tI]] cs/\Rw [tB] us/\Rw [tI,tI] es/\(-9223372036854775808<=a/\a<=9223372036854775807)):ap 170 [.agg [.s 1 cs,.s 1 us,.s 2 es],.j a] [.agg [.i (smM cs us es a),.i (smF cs us es a)]]:=by
 obtain⟨hc,hu,he,ha⟩:=hp;have hq:¬ a<0->bu .quo .i64 a 16=a/16:=fun h=>jN (by omega) (by omega) (by omega)
 refine cb Ob1.B Tryz.func170 ?_
 intro O r F hO hr hF;cbv
 repeat' first|apply And.intro|(apply be<;>intro hb<;>cbv)
 all_goals(subst hO hr hF;(try simp only[nc]at*);(try simp only[ai,SS,sa,az]at*))
 all_goals first|exact⟨hc,hu,he⟩|exact he|exact yt (wj (.inr (by omega))).1.symm (wj (.inr (by omega))).2.symm|exact yt (wj (.inl (by assumption))).1.symm (wj (.inl (by assumption))).2.symm|(rw[hq (by omega)];have hi:machOk cs us es=true:=(by assumption);exact yt ((o6 hi).1.trans (iZ (by omega)).1).symm ((o6 hi).2.trans (iZ (by omega)).2.1).symm)|trivial|trace_state
namespace Ob2
structure av where
 leM:aa->Int->Int
 leF:aa->Int->Int
 leK:Int->Int
 machOk:aa->aa->aa->Bool
abbrev F0 :av:=⟨leM,leF,leK,machOk⟩
def ct (F:av):CT:=fun f ds=>match f,ds with
 |168,[.agg [.s 1 b0,.s 1 b1,.s 2 es],.one (.v (.int .i64 a))]=>some (fun _=>Rw [tI,tI] es/\(-9223372036854775808<=a/\a<=9223372036854775807),[.agg [.i (F.leM es a),.i (F.leF es a)],.j (F.leK a)])
 |169,[.agg [.s 1 cs,.s 1 us,.s 2 es]]=>some (fun _=>Rw [.sl [tI]] cs/\Rw [tB] us/\Rw [tI,tI] es,[.k (F.machOk cs us es)])
 |_,_=>none
theorem ah :aO (ct F0):=by
 intro f ds pre res h hp;unfold ct at h;split at h<;>cases h
 exact q9 hp;exact iy hp
abbrev B :ce:=tb ah
end Ob2
theorem yA {cs us es:aa}{a:Int}(hp:Rw [.sl [tI]] cs/\Rw [tB] us/\Rw [tI,tI] es/\(-9223372036854775808<=a/\a<=9223372036854775807)):ap 70 [.agg [.s 1 cs,.s 1 us,.s 2 es],.j a] [.j (ldV cs us es a),.j (ldK cs us es a)]:=by
 obtain⟨hc,hu,he,hb⟩:=hp;have lk:=Fb (a:=a);refine cb Ob2.B Tryz.func70 ?_
 intro O r F hO hr hF;cbv
 repeat' first|apply And.intro|(apply be<;>intro hb<;>cbv)
 all_goals(subst hO hr hF;(try simp only[nc]at*);(try simp only[ai,SS,sa,az]at*);(try(have fr:=O1 (cs:=cs) (us:=us) (es:=es) (a:=a) (by assumption) (by assumption);have hr:Rw [tI] (ax cs (leF es a) 0):=Rw.sub (fs:=[.sl [tI]]) hc (by omega) rfl)))
 all_goals first
  | (show(_:List DV)=_
     first
      |(have q:=Fa (cs:=cs) (us:=us) (es:=es) (a:=a) (by assumption) (by assumption);exact gW q.1.symm q.2.symm)
      |(have q:=BZ (cs:=cs) (us:=us) (es:=es) (a:=a) (.inl (by assumption));exact gW q.1.symm q.2.symm)
      |(have q:=BZ (cs:=cs) (us:=us) (es:=es) (a:=a) (.inr (by assumption));exact gW q.1.symm q.2.symm)
      |done)
  |exact⟨he,hb⟩
  |exact⟨hc,hu,he⟩
  |exact d9
  |done
namespace Ob3
structure av where
 smM:aa->aa->aa->Int->Int
 smF:aa->aa->aa->Int->Int
abbrev F0 :av:=⟨smM,smF⟩
def ct (F:av):CT:=fun f ds=>match f,ds with
 |170,[.agg [.s 1 cs,.s 1 us,.s 2 es],.one (.v (.int .i64 a))]=>some (fun _=>Rw [.sl [tI]] cs/\Rw [tB] us/\Rw [tI,tI] es/\(-9223372036854775808<=a/\a<=9223372036854775807),[.agg [.i (F.smM cs us es a),.i (F.smF cs us es a)]])
 |_,_=>none
theorem ah :aO (ct F0):=by
 intro f ds pre res h hp;unfold ct at h;split at h<;>cases h
 exact sf hp
abbrev B :ce:=tb ah
end Ob3
theorem yz {cs us es:aa}{a:Int}(hp:Rw [.sl [tI]] cs/\Rw [tB] us/\Rw [tI,tI] es/\(-9223372036854775808<=a/\a<=9223372036854775807)):ap 71 [.agg [.s 1 cs,.s 1 us,.s 2 es],.j a] [.j (ldV cs us es a),.j (ldK cs us es a)]:=by
 obtain⟨hc,hu,he,hb⟩:=hp;have lk:=Fb (a:=a);have hr:¬ a<0->bu .rem .i64 a 16=a%16:=fun h=>wd (by omega)
 refine cb Ob3.B Tryz.func71 ?_
 intro O r F hO hr hF;cbv
 repeat' first|apply And.intro|(apply be<;>intro hb<;>cbv)
 all_goals(subst hO hr hF;(try simp only[nc]at*);(try simp only[ai,SS,sa,az]at*);(try have hz:smM cs us es a≠0:=(by assumption));(try have fr:=QU hz);(try have ok:=GK hz);(try have hrr:Rw [tI] (ax cs (smF cs us es a) 0):=Rw.sub (fs:=[.sl [tI]]) hc (by omega) rfl);(try rw[hr (by omega)]))
 all_goals first
  | (show(_:List DV)=_
     first
      |(have q:=L8 (by assumption);exact gW q.1.symm q.2.symm)
      |(have q:=L9 hz;exact gW q.1.symm q.2.symm)
      |done)
  |exact d9
  |exact⟨hc,hu,he,hb⟩
  |omega
  |done
namespace Ob4
structure av where
 hpI:aa->aa->aa->Int->aa->aa->aa->aa->aa->aa->aa->aa->Int->aa->Int->Int->Int->Int->Bool->Int->Int->aa->Int->Int->Bool
 mpT:aa->Int
 ufN:aa->aa->Int
 ooI:Bool->aa->Int->Int
 ldV:aa->aa->aa->Int->Int
 ldK:aa->aa->aa->Int->Int
abbrev F0 :av:=⟨hpI,mpT,ufN,ooI,ldV,ldK⟩
def ct (F:av):CT:=fun f ds=>match f with
 | 55=>match ds with
   |[.agg [.s 1 a0,.s 1 a1,.s 2 a2,.v (.int .i64 a3),.s 1 a4,.s 2 a5,.s 3 a6,.s 3 a7,.s 4 a8,.s 1 a9,.s 1 aA,.s 1 aB,.v (.int .i64 aC),.s 3 aD,.v (.int .i64 aE),.v (.int .i64 aF),.v (.int .i64 aG),.v (.int .i64 aH),.v (.bool aI),.v (.int .i64 aJ),.v (.int .i64 aK),.s 1 aL,.v (.int .i64 aM),.v (.int .i64 aN)]]=>some (fun _=>eR a0 a1 a2 a4 a5 a6 a7 a8 a9 aA aB aD aL,[.k (F.hpI a0 a1 a2 a3 a4 a5 a6 a7 a8 a9 aA aB aC aD aE aF aG aH aI aJ aK aL aM aN)])
   |_=>none
 | 44=>match ds with
   |[.agg [.s 1 a0,.s 1 a1,.s 2 a2,.v (.int .i64 a3),.s 1 a4,.s 2 a5,.s 3 a6,.s 3 a7,.s 4 a8,.s 1 a9,.s 1 aA,.s 1 aB,.v (.int .i64 aC),.s 3 aD,.v (.int .i64 aE),.v (.int .i64 aF),.v (.int .i64 aG),.v (.int .i64 aH),.v (.bool aI),.v (.int .i64 aJ),.v (.int .i64 aK),.s 1 aL,.v (.int .i64 aM),.v (.int .i64 aN)]]=>some (fun _=>eR a0 a1 a2 a4 a5 a6 a7 a8 a9 aA aB aD aL,[.k (F.hpI a0 a1 a2 a3 a4 a5 a6 a7 a8 a9 aA aB aC aD aE aF aG aH aI aJ aK aL aM aN)])
   |_=>none
 | 68=>match ds with
   |[.agg [.s 2 es]]=>some (fun _=>Rw [tI,tI] es/\es.length<=1099511627776,[.j (F.mpT es)])
   |_=>none
 | 66=>match ds with
   |[.agg [.s 2 es]]=>some (fun _=>Rw [tI,tI] es/\es.length<=1099511627776,[.j (F.mpT es)])
   |_=>none
 | 69=>match ds with
   |[.agg [.s 1 cs,.s 1 us]]=>some (fun _=>Rw [.sl [tI]] cs/\Rw [tB] us,[.j (F.ufN cs us)])
   |_=>none
 | 67=>match ds with
   |[.agg [.s 1 cs,.s 1 us]]=>some (fun _=>Rw [.sl [tI]] cs/\Rw [tB] us,[.j (F.ufN cs us)])
   |_=>none
 | 13=>match ds with
   |[.agg [.s 1 a0,.s 1 a1,.s 2 a2,.v (.int .i64 a3),.s 1 a4,.s 2 a5,.s 3 a6,.s 3 a7,.s 4 a8,.s 1 a9,.s 1 aA,.s 1 aB,.v (.int .i64 aC),.s 3 aD,.v (.int .i64 aE),.v (.int .i64 aF),.v (.int .i64 aG),.v (.int .i64 aH),.v (.bool aI),.v (.int .i64 aJ),.v (.int .i64 aK),.s 1 aL,.v (.int .i64 aM),.v (.int .i64 aN)],.one (.v (.int .i64 ad))]=>some (fun _=>eR a0 a1 a2 a4 a5 a6 a7 a8 a9 aA aB aD aL,[.j (F.ooI (F.hpI a0 a1 a2 a3 a4 a5 a6 a7 a8 a9 aA aB aC aD aE aF aG aH aI aJ aK aL aM aN) a8 ad)])
   |_=>none
 | 11=>match ds with
   |[.agg [.s 1 a0,.s 1 a1,.s 2 a2,.v (.int .i64 a3),.s 1 a4,.s 2 a5,.s 3 a6,.s 3 a7,.s 4 a8,.s 1 a9,.s 1 aA,.s 1 aB,.v (.int .i64 aC),.s 3 aD,.v (.int .i64 aE),.v (.int .i64 aF),.v (.int .i64 aG),.v (.int .i64 aH),.v (.bool aI),.v (.int .i64 aJ),.v (.int .i64 aK),.s 1 aL,.v (.int .i64 aM),.v (.int .i64 aN)],.one (.v (.int .i64 ad))]=>some (fun _=>eR a0 a1 a2 a4 a5 a6 a7 a8 a9 aA aB aD aL,[.j (F.ooI (F.hpI a0 a1 a2 a3 a4 a5 a6 a7 a8 a9 aA aB aC aD aE aF aG aH aI aJ aK aL aM aN) a8 ad)])
   |_=>none
 | 71=>match ds with
   |[.agg [.s 1 cs,.s 1 us,.s 2 es],.one (.v (.int .i64 a))]=>some (fun _=>Rw [.sl [tI]] cs/\Rw [tB] us/\Rw [tI,tI] es/\(-9223372036854775808<=a/\a<=9223372036854775807),[.j (F.ldV cs us es a),.j (F.ldK cs us es a)])
   |_=>none
 | 70=>match ds with
   |[.agg [.s 1 cs,.s 1 us,.s 2 es],.one (.v (.int .i64 a))]=>some (fun _=>Rw [.sl [tI]] cs/\Rw [tB] us/\Rw [tI,tI] es/\(-9223372036854775808<=a/\a<=9223372036854775807),[.j (F.ldV cs us es a),.j (F.ldK cs us es a)])
   |_=>none
 |_=>none
theorem ah :aO (ct F0):=by
 intro f ds pre res h hp;unfold ct at h;split at h<;>(try split at h)<;>cases h
 exact cK hp;exact dE hp;exact gh hp;exact gx hp;exact gS hp;exact gT hp;exact jz hp;exact jF hp;exact yz hp;exact yA hp
abbrev B :ce:=tb ah
end Ob4
theorem lM {a0 a1 a2:aa}{a3:Int}{a4 a5 a6 a7 a8 a9 aA aB:aa}{aC:Int}{aD:aa}{aE aF aG aH:Int}{aI:Bool}{aJ aK:Int}{aL:aa}{aM aN:Int}(hp:eR a0 a1 a2 a4 a5 a6 a7 a8 a9 aA aB aD aL):ap 16 [.agg (ez a0 a1 a2 a3 a4 a5 a6 a7 a8 a9 aA aB aC aD aE aF aG aH aI aJ aK aL aM aN)] [.j (sfI (hpI a0 a1 a2 a3 a4 a5 a6 a7 a8 a9 aA aB aC aD aE aF aG aH aI aJ aK aL aM aN) (mpT a2) (ufN a0 a1))]:=by
 refine cb Ob4.B Tryz.func16 ?_
 exact Rn
theorem pR {a0 a1 a2:aa}{a3:Int}{a4 a5 a6 a7 a8 a9 aA aB:aa}{aC:Int}{aD:aa}{aE aF aG aH:Int}{aI:Bool}{aJ aK:Int}{aL:aa}{aM aN a:Int}(hp:eR a0 a1 a2 a4 a5 a6 a7 a8 a9 aA aB aD aL/\(-9223372036854775808<=a/\a<=9223372036854775807)):ap 18 [.agg (ez a0 a1 a2 a3 a4 a5 a6 a7 a8 a9 aA aB aC aD aE aF aG aH aI aJ aK aL aM aN),.j a] [.j (hlV (ooI (hpI a0 a1 a2 a3 a4 a5 a6 a7 a8 a9 aA aB aC aD aE aF aG aH aI aJ aK aL aM aN) a8 a) (ldV a0 a1 a2 a)),.j (hlK (ooI (hpI a0 a1 a2 a3 a4 a5 a6 a7 a8 a9 aA aB aC aD aE aF aG aH aI aJ aK aL aM aN) a8 a))]:=by
 obtain⟨hp,hB⟩:=hp;refine cb Ob4.B Tryz.func18 ?_
 exact Ro
theorem lQ {a0 a1 a2:aa}{a3:Int}{a4 a5 a6 a7 a8 a9 aA aB:aa}{aC:Int}{aD:aa}{aE aF aG aH:Int}{aI:Bool}{aJ aK:Int}{aL:aa}{aM aN:Int}(hp:eR a0 a1 a2 a4 a5 a6 a7 a8 a9 aA aB aD aL):ap 15 [.agg (ez a0 a1 a2 a3 a4 a5 a6 a7 a8 a9 aA aB aC aD aE aF aG aH aI aJ aK aL aM aN)] [.j (sfI (hpI a0 a1 a2 a3 a4 a5 a6 a7 a8 a9 aA aB aC aD aE aF aG aH aI aJ aK aL aM aN) (mpT a2) (ufN a0 a1))]:=by
 refine cb Ob4.B Tryz.func15 ?_
 exact Rn
theorem qT {a0 a1 a2:aa}{a3:Int}{a4 a5 a6 a7 a8 a9 aA aB:aa}{aC:Int}{aD:aa}{aE aF aG aH:Int}{aI:Bool}{aJ aK:Int}{aL:aa}{aM aN a:Int}(hp:eR a0 a1 a2 a4 a5 a6 a7 a8 a9 aA aB aD aL/\(-9223372036854775808<=a/\a<=9223372036854775807)):ap 17 [.agg (ez a0 a1 a2 a3 a4 a5 a6 a7 a8 a9 aA aB aC aD aE aF aG aH aI aJ aK aL aM aN),.j a] [.j (hlV (ooI (hpI a0 a1 a2 a3 a4 a5 a6 a7 a8 a9 aA aB aC aD aE aF aG aH aI aJ aK aL aM aN) a8 a) (ldV a0 a1 a2 a)),.j (hlK (ooI (hpI a0 a1 a2 a3 a4 a5 a6 a7 a8 a9 aA aB aC aD aE aF aG aH aI aJ aK aL aM aN) a8 a))]:=by
 obtain⟨hp,hB⟩:=hp;refine cb Ob4.B Tryz.func17 ?_
 exact Ro
end Go.V