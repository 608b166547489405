/- Contracts. -/
import Derived.Test.YtpldpilhgjpkjaaGreatWM0
import Derived.Test.YtpldpilhgjpkjaaGreatWW3
set_option linter.all false
open Go
open And renaming intro->Zb
open IntKind renaming i64->Za
open List renaming length_nil->Zt,length_take->Zm,length_cons->Zp
namespace Go.V
open Go Go.Proofs
set_option maxRecDepth 1000000
set_option maxHeartbeats 8000000
abbrev KA1:cT:=dG (fun F f=>match f with|33=>ai F|92=>ai F|_=>fun _=>none) (by
 intro f;dsimp only;split;exact aU;exact bi;exact cX)
def eC:EC:=fun F=>fun
 |[.agg [.s 1 cs,.s 1 us]]=>some (fun _=>Rw [.sl [tI]] cs/\Rw [tB] us,[.k (F.framesOk cs us)])
 |_=>none
def xG:ec 188 eC:=by
 intro _ _ _ h hp;dsimp only[eC,F0]at h;split at h<;>cases h
 rename_i cs us;obtain⟨hc,hu⟩:=hp;have hcw:=hc.wf;have huw:=hu.wf;have hlen:=hc.1;unfold maxLen at hlen;refine cb KA1 Tryz.func188 ?_
 intro O r F hO hr hF;cbv
 repeat' first|apply Zb|(apply bC<;>intro hb<;>cbv)|(refine⟨[1,22,23,24],[1],Int,fun i=>[.reg 24 (.j i)],fun i=>0<=i/\i<=((cs.length:Nat):Int)/\upto (hN cs us) i,fun i=>(cs.length)-i.toNat,⟨0,?_,?_⟩,?_⟩;rotate_left;(focus (cbv;done));intro i hi;replace hi:0<=i/\i<=((cs.length:Nat):Int)/\upto (hN cs us) i:=hi;obtain⟨i0,i1,i2⟩:=hi;cbv)|(refine af (O.ar .add Za i 1) ?_ ?_ ?_;focus (cbv;done))|(refine⟨[1,3,22,23,24,32,33,34],[1],Int,fun k=>[.reg 34 (.j k)],fun k=>0<=k/\k<=(((O.gs cs i 0).length:Nat):Int)/\upto (nP cs us i) k,fun k=>((O.gs cs i 0).length)-k.toNat,⟨0,?_,?_⟩,?_⟩;rotate_left;(focus (cbv;done));intro k hk;replace hk:0<=k/\k<=(((O.gs cs i 0).length:Nat):Int)/\upto (nP cs us i) k:=hk;obtain⟨k0,k1,k2⟩:=hk;cbv)|(refine af (O.ar .add Za k 1) ?_ ?_ ?_;focus (cbv;done))
 all_goals exact agt
def yB:ec 353 eC:=by
 intro _ _ _ h hp;dsimp only[eC,F0]at h;split at h<;>cases h
 rename_i cs us;obtain⟨hc,hu⟩:=hp;have hlen:=hc.1;unfold maxLen at hlen;refine cb KA1 Tryz.func353 ?_
 intro O r F hO hr hF;cbv
 repeat' first|apply Zb|(apply bC<;>intro hb<;>cbv)|(refine⟨[1,3],[1],Int,fun i=>[.reg 3 (.j i)],fun i=>0<=i/\i<=((cs.length:Nat):Int)/\upto (hN cs us) i,fun i=>(cs.length)-i.toNat,⟨0,?_,?_⟩,?_⟩;rotate_left;(focus (cbv;done));intro i hi;replace hi:0<=i/\i<=((cs.length:Nat):Int)/\upto (hN cs us) i:=hi;obtain⟨i0,i1,i2⟩:=hi;cbv)|(refine af (O.ar .add Za i 1) ?_ ?_ ?_;focus (cbv;done))|(refine⟨[1,3,4],[1],Int,fun k=>[.reg 4 (.j k)],fun k=>0<=k/\k<=((16:Nat):Int)/\upto (nP cs us i) k,fun k=>(16)-k.toNat,⟨0,?_,?_⟩,?_⟩;rotate_left;(focus (cbv;done));intro k hk;replace hk:0<=k/\k<=((16:Nat):Int)/\upto (nP cs us i) k:=hk;obtain⟨k0,k1,k2⟩:=hk;cbv)|(refine af (O.ar .add Za k 1) ?_ ?_ ?_;focus (cbv;done))
 all_goals exact agt
def fm:EC:=fun F=>fun
 |[.agg [.s 2 es],.one (.v (.int Za n))]=>some (fun _=>Rw [tI,tI] es,[.k (F.tableOk es n)])
 |_=>none
def zT:ec 276 fm:=by
 intro _ _ _ h hp;dsimp only[fm,F0]at h;split at h<;>cases h
 rename_i es n;have hlen:=hp.1;unfold maxLen at hlen;refine cb KA1 Tryz.func276 ?_
 intro O r F hO hr hF;cbv
 repeat' first|apply Zb|(apply bC<;>intro hb<;>cbv)|(refine⟨[1,2,8,9,10],[2],Int,fun i=>[.reg 10 (.j i)],fun i=>0<=i/\i<=((es.length:Nat):Int)/\upto (rk es n) i,fun i=>(es.length)-i.toNat,⟨0,?_,?_⟩,?_⟩;rotate_left;(focus (cbv;done));intro i hi;replace hi:0<=i/\i<=((es.length:Nat):Int)/\upto (rk es n) i:=hi;obtain⟨i0,i1,i2⟩:=hi;cbv)|(refine af (O.ar .add Za i 1) ?_ ?_ ?_;focus (cbv;done))
 all_goals exact agC
def AF:ec 354 fm:=by
 intro _ _ _ h hp;dsimp only[fm,F0]at h;split at h<;>cases h
 rename_i es n;have hlen:=hp.1;unfold maxLen at hlen;refine cb KA1 Tryz.func354 ?_
 intro O r F hO hr hF;cbv
 repeat' first|apply Zb|(apply bC<;>intro hb<;>cbv)|(refine⟨[1,2,5],[2],Int,fun i=>[.reg 5 (.j i)],fun i=>0<=i/\i<=((es.length:Nat):Int)/\upto (rk es n) i,fun i=>(es.length)-i.toNat,⟨0,?_,?_⟩,?_⟩;rotate_left;(focus (cbv;done));intro i hi;replace hi:0<=i/\i<=((es.length:Nat):Int)/\upto (rk es n) i:=hi;obtain⟨i0,i1,i2⟩:=hi;cbv)|(refine af (O.ar .add Za i 1) ?_ ?_ ?_;focus (cbv;done))
 all_goals exact agC
def fH:EC:=fun F=>fun
 |[.one (.s 1 es)]=>some (fun _=>Rw [tI] es/\es.length<=1099511627776,[.one (.s 1 es)])
 |_=>none
def ke:ec 132 fH:=by
 intro _ _ _ h hp;dsimp only[fH,F0]at h;split at h<;>cases h
 rename_i es;obtain⟨hw,hl⟩:=hp;have hs:=hw.scal rfl;refine cb nB Tryz.func132 ?_
 intro O r F hO hr hF;cbv
 repeat' first|apply Zb|(apply bC<;>intro hb<;>cbv)
 all_goals(subst hO hr hF;(try simp only[nc]at*);(try simp only[ah,SS,sa,az]at*))
 all_goals first|exact hs|trivial|(simp only[Zt];omega)|trace_state
abbrev KD4:cT:=dG (fun F f=>match f with|188=>eC F|276=>fm F|277=>cN F|_=>fun _=>none) (by
 intro f;dsimp only;split;exact xG;exact zT;exact lM;exact cX)
def cU:EC:=fun F=>fun
 |[.agg [.s 1 cs,.s 1 us,.s 2 es]]=>some (fun _=>Rw [.sl [tI]] cs/\Rw [tB] us/\Rw [tI,tI] es,[.k (F.machOk cs us es)])
 |_=>none
def oU:ec 164 cU:=by
 intro _ _ _ h hp;dsimp only[cU,F0]at h;split at h<;>cases h
 rename_i cs us es;obtain⟨hc,hu,ht⟩:=hp;have hm:=hu.1;unfold maxLen at hm;refine cb KD4 Tryz.func164 ?_
 intro O r F hO hr hF;cbv
 repeat' first|apply Zb|(apply bC<;>intro hb<;>cbv)|(refine⟨[1,21,22,23],[1],Int,fun i=>[.reg 23 (.j i)],fun i=>0<=i/\i<=((us.length:Nat):Int)/\upto (oF us es) i,fun i=>(us.length)-i.toNat,⟨0,?_,?_⟩,?_⟩;rotate_left;(focus (cbv;done));intro i hi;replace hi:0<=i/\i<=((us.length:Nat):Int)/\upto (oF us es) i:=hi;obtain⟨i0,i1,i2⟩:=hi;cbv)|(refine af (O.ar .add Za i 1) ?_ ?_ ?_;focus (cbv;done))
 all_goals(subst hO hr hF;(try simp only[nc]at*);(try simp only[ah,SS,sa,az]at*);(try simp only[J2]at*);(try rw[dd Uc Uc]);(try(have hfl:=A7 (cs:=cs) (us:=us) Ud));(try(have htl:=BW (es:=es) (n:=(us.length:Int)) Ud));(try(have htl:=BW (es:=es) (n:=(cs.length:Int)) Ud)))
 all_goals first|omega|exact iB|exact bI|exact⟨hc,hu⟩|exact⟨ht,Uc⟩|exact aj (J7 (.inl Ud)).symm|exact aj (abz Ud Ud).symm|exact aj (No i0 Uc Ud).symm|exact bu i2 (Nn Ud)|exact aj (IA Ud Ud i2 Uc).symm|trace_state
abbrev KD5:cT:=dG (fun F f=>match f with|353=>eC F|354=>fm F|355=>cN F|_=>fun _=>none) (by
 intro f;dsimp only;split;exact yB;exact AF;exact lU;exact cX)
def oV:ec 294 cU:=by
 intro _ _ _ h hp;dsimp only[cU,F0]at h;split at h<;>cases h
 rename_i cs us es;obtain⟨hc,hu,ht⟩:=hp;have hm:=hu.1;unfold maxLen at hm;refine cb KD5 Tryz.func294 ?_
 intro O r F hO hr hF;cbv
 repeat' first|apply Zb|(apply bC<;>intro hb<;>cbv)|(refine⟨[1,3],[1],Int,fun i=>[.reg 3 (.j i)],fun i=>0<=i/\i<=((us.length:Nat):Int)/\upto (oF us es) i,fun i=>(us.length)-i.toNat,⟨0,?_,?_⟩,?_⟩;rotate_left;(focus (cbv;done));intro i hi;replace hi:0<=i/\i<=((us.length:Nat):Int)/\upto (oF us es) i:=hi;obtain⟨i0,i1,i2⟩:=hi;cbv)|(refine af (O.ar .add Za i 1) ?_ ?_ ?_;focus (cbv;done))
 all_goals(subst hO hr hF;(try simp only[nc]at*);(try simp only[ah,SS,sa,az]at*);(try simp only[J2]at*);(try rw[dd Uc Uc]);(try(have hfl:=A7 (cs:=cs) (us:=us) Ud));(try(have htl:=BW (es:=es) (n:=(us.length:Int)) Ud));(try(have htl:=BW (es:=es) (n:=(cs.length:Int)) Ud)))
 all_goals first|omega|exact iB|(show ay _ _=true;kernel_rfl)|exact bI|exact⟨hc,hu⟩|exact⟨ht,Uc⟩|exact aj (J7 (.inl Ud)).symm|exact aj (J7 (.inr Ud)).symm|exact aj (No i0 Uc Ud).symm|exact bu i2 (Nn Ud)|(refine aj (IA Ud ?_ i2 Uc).symm;rw[hfl.1];assumption)|trace_state
abbrev N3:cT:=dG (fun F f=>match f with|33=>ai F|92=>ai F|164=>cU F|294=>cU F|_=>fun _=>none) (by
 intro f;dsimp only;split;exact aU;exact bi;exact oU;exact oV;exact cX)
def dh:EC:=fun F=>fun
 |[.agg [.s 1 cs,.s 1 us,.s 2 es,.v (.int Za c),.s 1 rs]]=>some (fun _=>Rw [.sl [tI]] cs/\Rw [tB] us/\Rw [tI,tI] es/\Rw [tI] rs,[.k (F.kerOk cs us es c rs)])
 |_=>none
def qq:ec 60 dh:=by
 intro _ _ _ h hp;dsimp only[dh,F0]at h;split at h<;>cases h
 rename_i cs us es c rs;obtain⟨hc,hu,ht,hr⟩:=hp;have hm:=hr.1;unfold maxLen at hm;refine cb N3 Tryz.func60 ?_
 intro O r F hO hr hF;cbv
 repeat' first|apply Zb|(apply bC<;>intro hb<;>cbv)|(refine⟨[1,6,7,8],[1],Int,fun i=>[.reg 8 (.j i)],fun i=>0<=i/\i<=((rs.length:Nat):Int)/\upto (GY rs) i,fun i=>(rs.length)-i.toNat,⟨0,?_,?_⟩,?_⟩;rotate_left;(focus (cbv;done));intro i hi;replace hi:0<=i/\i<=((rs.length:Nat):Int)/\upto (GY rs) i:=hi;obtain⟨i0,i1,i2⟩:=hi;cbv)|(refine af (O.ar .add Za i 1) ?_ ?_ ?_;focus (cbv;done))
 all_goals(subst hO hr hF;(try simp only[nc]at*);(try simp only[ah,SS,sa,az]at*);(try rw[dd Uc Uc]))
 all_goals first
  | (show(_:List DV)=_
     first
      |exact aj (Oc i0 Ud Ud).symm
      |exact aj (JS Ud).symm
      |exact aj (Qh (QL Uc)).symm
      |(refine aj ?_;unfold kerOk;rw[show inR c 0 100000=true from by assumption,QM i2 Uc Uc];simp)
      |done)
  |omega
  |exact iB
  |exact bI
  |exact bu i2 (Ob Uc)
  |exact⟨hc,hu,ht⟩
  |trace_state
def qB:ec 201 dh:=by
 intro _ _ _ h hp;dsimp only[dh,F0]at h;split at h<;>cases h
 rename_i cs us es c rs;obtain⟨hc,hu,ht,hr⟩:=hp;have hm:=hr.1;unfold maxLen at hm;refine cb N3 Tryz.func201 ?_
 intro O r F hO hr hF;cbv
 repeat' first|apply Zb|(apply bC<;>intro hb<;>cbv)|(refine⟨[1,3],[1],Int,fun i=>[.reg 3 (.j i)],fun i=>0<=i/\i<=((rs.length:Nat):Int)/\upto (GY rs) i,fun i=>(rs.length)-i.toNat,⟨0,?_,?_⟩,?_⟩;rotate_left;(focus (cbv;done));intro i hi;replace hi:0<=i/\i<=((rs.length:Nat):Int)/\upto (GY rs) i:=hi;obtain⟨i0,i1,i2⟩:=hi;cbv)|(refine af (O.ar .add Za i 1) ?_ ?_ ?_;focus (cbv;done))
 all_goals(subst hO hr hF;(try simp only[nc]at*);(try simp only[ah,SS,sa,az]at*);(try rw[dd Uc Uc]))
 all_goals first
  | (show(_:List DV)=_
     first
      |exact aj (Oc i0 Ud Ud).symm
      |exact aj (Qg Ud).symm
      |exact aj (JS Ud).symm
      |(refine aj ?_;unfold kerOk rK;rw[show machOk cs us es=true from by assumption,show inR c 0 100000=true from by assumption,bJ i2 Uc];refine ij ?_;simp only[SS,Bool.true_and,VD];omega)
      |done)
  |omega
  |exact iB
  |exact bI
  |exact bu i2 (Ob Uc)
  |exact⟨hc,hu,ht⟩
  |trace_state
abbrev Rt:cT:=dG (fun F f=>match f with|132=>fH F|_=>fun _=>none) (by
 intro f;dsimp only;split;exact ke;exact cX)
def dZ:EC:=fun F=>fun
 |[.agg [.s 2 es]]=>some (fun _=>Rw [tI,tI] es/\es.length<=1099511627776,[.agg [.s 2 es]])
 |_=>none
def vI:ec 268 dZ:=by
 intro _ _ _ h hp;dsimp only[dZ,F0]at h;split at h<;>cases h
 rename_i es;obtain⟨hw,hl⟩:=hp;have hs:=hw.scal rfl;refine cb Rt Tryz.func268 ?_
 exact zq9
def AH:ec 352 dZ:=by
 intro _ _ _ h hp;dsimp only[dZ,F0]at h;split at h<;>cases h
 rename_i es;obtain⟨hw,hl⟩:=hp;have hs:=hw.scal rfl;refine cb Rt Tryz.func352 ?_
 exact zq9
def iJ:EC:=fun F=>fun
 |[.one (.s 2 es)]=>some (fun _=>Rw [tI,tI] es/\es.length<=1099511627776,[.one (.s 2 es)])
 |_=>none
def tR:ec 134 iJ:=by
 intro _ _ _ h hp;dsimp only[iJ,F0]at h;split at h<;>cases h
 rename_i es;obtain⟨hw,hl⟩:=hp;have hs:=hw.scal rfl;refine cb Rt Tryz.func134 ?_
 exact zq9
def eM:EC:=fun F=>fun
 |[.agg [.v (.int Za r),.s 3 qs]]=>some (fun _=>Rw [tI,tI,tI] qs/\qs.length<=1099511627776,[.agg [.i r,.s 3 qs]])
 |_=>none
def xT:ec 137 eM:=by
 intro _ _ _ h hp;dsimp only[eM,F0]at h;split at h<;>cases h
 rename_i r qs;obtain⟨hw,hl⟩:=hp;have hs:=hw.scal rfl;refine cb Rt Tryz.func137 ?_
 exact zq9
def AQ:ec 199 eM:=by
 intro _ _ _ h hp;dsimp only[eM,F0]at h;split at h<;>cases h
 rename_i r qs;obtain⟨hw,hl⟩:=hp;have hs:=hw.scal rfl;refine cb Rt Tryz.func199 ?_
 exact zq9
def Tryz.laysC15_ren:Go.Shelf.Ren:=⟨fun|15=>328|n=>n,fun|22=>24|3=>3|4=>4|n=>n,fun|n=>n⟩
def Tryz.laysC15:Lays2.n15 Tryz.prog Tryz.laysC15_ren:=⟨by kernel_rfl,Tryz.func328.trans (congrArg some (by kernel_rfl)),Tryz.underlying3,Tryz.isAgg3,Tryz.sizeOf3,Tryz.zeroValue3,Tryz.underlying4,Tryz.isAgg4,Tryz.sizeOf4,Tryz.zeroValue4,Tryz.underlying24,Tryz.isAgg24,Tryz.sizeOf24,Tryz.zeroValue24,by kernel_rfl⟩
def fD:EC:=fun F=>fun
 |[.one (.s 1 l)]=>some (fun _=>Rw [tI] l/\l.length<=1099511627776,[.one (.s 1 l)])
 |_=>none
def pA:ec 328 fD:=by
 intro _ _ _ h hp;dsimp only[fD,F0]at h;split at h<;>cases h
 rename_i l;exact KW (Any.slices_Clone_int_nil Tryz.laysC15) (Any.slices_Clone_int_zero Tryz.laysC15) (Any.slices_Clone_int Tryz.laysC15) l hp
def dt:EC:=fun F=>fun
 |[.agg [.v (.int Za k),.v (.int Za m),.s 1 cs,.v (.int Za p),.v (.int Za n)]]=>some (fun _=>Rw [tI] cs/\cs.length<=1099511627776,[.agg [.i k,.i m,.s 1 cs,.i p,.i n]])
 |_=>none
def q7:ec 200 dt:=by
 intro _ _ _ h hp;dsimp only[dt,F0]at h;split at h<;>cases h
 rename_i k m cs p n;obtain⟨hw,hl⟩:=hp;have hs:=hw.scal rfl;refine cb Rt Tryz.func200 ?_
 exact zq9
def dA:EC:=fun F=>fun
 |[.agg [.s 1 cs,.s 1 us]]=>some (fun _=>Rw [.sl [tI]] cs/\Rw [tB] us/\au cs<=1099511627776/\au us<=1099511627776,[.agg [.s 1 cs,.s 1 us]])
 |_=>none
def tP:ec 267 dA:=by
 intro _ _ _ h hp;dsimp only[dA,F0]at h;split at h<;>cases h
 rename_i cs us;obtain⟨hc,hu,hn,hm⟩:=hp;have hs:=hu.scal rfl;have hl1:=aS (es:=cs);have hl2:=aS (es:=us);refine cb Rt Tryz.func267 ?_
 intro O r F hO hr hF;cbv
 repeat' first|apply Zb|(apply bC<;>intro hb<;>cbv)|(refine⟨[2,3,12,13,14],[2,3],Int×ab,fun s_=>match s_ with|(i,out)=>[.reg 14 (.j i),.leaf 3 0 ⟨0,0,none,.own (.s 1 out)⟩],fun s_=>match s_ with|(i,out)=>0<=i/\i<=(cs.length:Int)/\out=cs.take i.toNat,fun s_=>match s_ with|(i,out)=>cs.length-i.toNat,⟨(0,[]),?_,?_⟩,?_⟩;rotate_left;(focus (cbv;done));intro s_ hi;obtain⟨i,out⟩:=s_;replace hi:0<=i/\i<=(cs.length:Int)/\out=cs.take i.toNat:=hi;obtain⟨i0,i1,i2⟩:=hi;cbv)|(refine af (O.ar .add Za i 1,O.cat out [[.s 1 (O.gs cs i 0)]]) ?_ ?_ ?_;focus (cbv;done))
 all_goals(subst hO hr hF;(try simp only[nc]at*);(try simp only[ah,SS,sa,az]at*);(try rw[dd Uc Uc]);(try(have hol:out.length=i.toNat:=(by rw[i2,Zm];omega)));(try(have hsc:=sv hc i0 Ud;have hsl:=aS (es:=aw cs i 0))))
 all_goals first|exact hs|omega|exact iB|(show ay _ _=true;kernel_rfl)|exact⟨by(first|assumption|exact Rw.sub (by first|assumption|exact Rw.sub Ud Uc rfl) Uc rfl),Uc⟩|(simp only[Zt,Zp];omega)|(rw[i2];exact(jh hc i0 Ud).symm)|(rw[i2,jg Uc];rfl)|exact⟨trivial,trivial⟩|trivial|exact rfl|trace_state
def AG:ec 351 dA:=by
 intro _ _ _ h hp;dsimp only[dA,F0]at h;split at h<;>cases h
 rename_i cs us;obtain⟨hc,hu,hn,hm⟩:=hp;have hs:=hu.scal rfl;have hl1:=aS (es:=cs);have hl2:=aS (es:=us);refine cb Rt Tryz.func351 ?_
 intro O r F hO hr hF;cbv
 repeat' first|apply Zb|(apply bC<;>intro hb<;>cbv)|(refine⟨[1,2,3,4],[1,2,3],Int×ab,fun s_=>match s_ with|(i,out)=>[.reg 4 (.j i),.leaf 3 0 ⟨0,0,none,.own (.s 1 out)⟩],fun s_=>match s_ with|(i,out)=>0<=i/\i<=(cs.length:Int)/\out=cs.take i.toNat,fun s_=>match s_ with|(i,out)=>cs.length-i.toNat,⟨(0,[]),?_,?_⟩,?_⟩;rotate_left;(focus (cbv;done));intro s_ hi;obtain⟨i,out⟩:=s_;replace hi:0<=i/\i<=(cs.length:Int)/\out=cs.take i.toNat:=hi;obtain⟨i0,i1,i2⟩:=hi;cbv)|(refine af (O.ar .add Za i 1,O.cat out [[.s 1 (O.gs cs i 0)]]) ?_ ?_ ?_;focus (cbv;done))|(refine af (O.ar .add Za i 1,O.cat out [[.s 1 (O.cat [] (O.gs cs i 0))]]) ?_ ?_ ?_;focus (cbv;done))
 all_goals(subst hO hr hF;(try simp only[nc]at*);(try simp only[ah,SS,sa,az]at*);(try rw[dd Uc Uc]);(try(have hol:out.length=i.toNat:=(by rw[i2,Zm];omega)));(try(have hsc:=sv hc i0 Ud;have hsl:=aS (es:=aw cs i 0))))
 all_goals first|exact hs|exact Rw.scal (fs:=[tI]) (by(first|assumption|exact Rw.sub (by first|assumption|exact Rw.sub Ud Uc rfl) Uc rfl)) rfl|omega|exact iB|(show ay _ _=true;kernel_rfl)|exact⟨by(first|assumption|exact Rw.sub (by first|assumption|exact Rw.sub Ud Uc rfl) Uc rfl),Uc⟩|(simp only[Zt,Zp];omega)|(rw[i2];exact(jh hc i0 Ud).symm)|(rw[i2,List.nil_append];exact(jh hc i0 Ud).symm)|(rw[i2,jg Uc];rfl)|exact⟨trivial,trivial⟩|trivial|exact rfl|trace_state
abbrev Ia1:cT:=dG (fun F f=>match f with|267=>dA F|268=>dZ F|351=>dA F|352=>dZ F|328=>fD F|_=>fun _=>none) (by
 intro f;dsimp only;split;exact tP;exact vI;exact AG;exact AH;exact pA;exact cX)
def b9:EC:=fun F=>fun
 |[.agg [.s 1 cs,.s 1 us,.s 2 es]]=>some (fun _=>Rw [.sl [tI]] cs/\Rw [tB] us/\Rw [tI,tI] es/\au cs<=1099511627776/\au us<=1099511627776/\au es<=1099511627776,[.agg [.s 1 cs,.s 1 us,.s 2 es]])
 |_=>none
def hY:ec 150 b9:=by
 intro _ _ _ h hp;dsimp only[b9,F0]at h;split at h<;>cases h
 rename_i cs us es;obtain⟨hc,hu,he,hn,hm,hk⟩:=hp;have hl:=aS (es:=es);refine cb Ia1 Tryz.func150 ?_
 exact agN
def qZ:ec 293 b9:=by
 intro _ _ _ h hp;dsimp only[b9,F0]at h;split at h<;>cases h
 rename_i cs us es;obtain⟨hc,hu,he,hn,hm,hk⟩:=hp;have hl:=aS (es:=es);refine cb Ia1 Tryz.func293 ?_
 exact agN
def hE:EC:=fun F=>fun
 |[.agg [.v (.int Za k),.v (.int Za m),.s 1 cs]]=>some (fun _=>Rw [tI] cs/\cs.length<=1099511627776,[.agg [.i k,.i m,.s 1 cs]])
 |_=>none
def qx:ec 252 hE:=by
 intro _ _ _ h hp;dsimp only[hE,F0]at h;split at h<;>cases h
 rename_i k m cs;obtain⟨hw,hl⟩:=hp;have hs:=hw.scal rfl;refine cb Ia1 Tryz.func252 ?_
 exact zq9
abbrev Ia2:cT:=dG (fun F f=>match f with|150=>b9 F|293=>b9 F|132=>fH F|252=>hE F|_=>fun _=>none) (by
 intro f;dsimp only;split;exact hY;exact qZ;exact ke;exact qx;exact cX)
def bY:EC:=fun F=>fun
 |[.agg [.s 1 cs,.s 1 us,.s 2 es,.v (.int Za c),.s 1 rs]]=>some (fun _=>Rw [.sl [tI]] cs/\Rw [tB] us/\Rw [tI,tI] es/\Rw [tI] rs/\au cs<=1099511627776/\au us<=1099511627776/\au es<=1099511627776/\au rs<=1099511627776,[.agg [.s 1 cs,.s 1 us,.s 2 es,.i c,.s 1 rs]])
 |_=>none
def eP:ec 133 bY:=by
 intro _ _ _ h hp;dsimp only[bY,F0]at h;split at h<;>cases h
 rename_i cs us es c rs;obtain⟨hc,hu,he,hr,hn,hm,hk,hl⟩:=hp;have l1:=aS (es:=rs);have hs:=hr.scal rfl;refine cb Ia2 Tryz.func133 ?_
 exact agJ
def AJ:ec 196 bY:=by
 intro _ _ _ h hp;dsimp only[bY,F0]at h;split at h<;>cases h
 rename_i cs us es c rs;obtain⟨hc,hu,he,hr,hn,hm,hk,hl⟩:=hp;have l1:=aS (es:=rs);have hs:=hr.scal rfl;refine cb Ia2 Tryz.func196 ?_
 exact agJ
def qV:ec 138 dt:=by
 intro _ _ _ h hp;dsimp only[dt,F0]at h;split at h<;>cases h
 rename_i k m cs p n;obtain⟨hw,hl⟩:=hp;have hs:=hw.scal rfl;refine cb Ia2 Tryz.func138 ?_
 exact zq9
abbrev Ia3:cT:=dG (fun F f=>match f with|132=>fH F|_=>fun _=>none) (by
 intro f;dsimp only;split;exact ke;exact cX)
def dY:EC:=fun F=>fun
 |[.agg [.s 1 ls]]=>some (fun _=>Rw [.sl [tI]] ls/\au ls<=1099511627776,[.agg [.s 1 ls]])
 |_=>none
def vH:ec 135 dY:=by
 intro _ _ _ h hp;dsimp only[dY,F0]at h;split at h<;>cases h
 rename_i ls;obtain⟨hc,hn⟩:=hp;have hl1:=aS (es:=ls);refine cb Ia3 Tryz.func135 ?_
 intro O r F hO hr hF;cbv
 repeat' first|apply Zb|(apply bC<;>intro hb<;>cbv)|(refine⟨[2,3,8,9,10],[2,3],Int×ab,fun s_=>match s_ with|(i,out)=>[.reg 10 (.j i),.leaf 3 0 ⟨0,0,none,.own (.s 1 out)⟩],fun s_=>match s_ with|(i,out)=>0<=i/\i<=(ls.length:Int)/\out=ls.take i.toNat,fun s_=>match s_ with|(i,out)=>ls.length-i.toNat,⟨(0,[]),?_,?_⟩,?_⟩;rotate_left;(focus (cbv;done));intro s_ hi;obtain⟨i,out⟩:=s_;replace hi:0<=i/\i<=(ls.length:Int)/\out=ls.take i.toNat:=hi;obtain⟨i0,i1,i2⟩:=hi;cbv)|(refine af (O.ar .add Za i 1,O.cat out [[.s 1 (O.gs ls i 0)]]) ?_ ?_ ?_;focus (cbv;done))|(refine af (O.ar .add Za i 1,O.cat out [[.s 1 (O.cat [] (O.gs ls i 0))]]) ?_ ?_ ?_;focus (cbv;done))
 all_goals exact agm
def AO:ec 197 dY:=by
 intro _ _ _ h hp;dsimp only[dY,F0]at h;split at h<;>cases h
 rename_i ls;obtain⟨hc,hn⟩:=hp;have hl1:=aS (es:=ls);refine cb Ia3 Tryz.func197 ?_
 intro O r F hO hr hF;cbv
 repeat' first|apply Zb|(apply bC<;>intro hb<;>cbv)|(refine⟨[1,2,3,4],[1,2,3],Int×ab,fun s_=>match s_ with|(i,out)=>[.reg 4 (.j i),.leaf 3 0 ⟨0,0,none,.own (.s 1 out)⟩],fun s_=>match s_ with|(i,out)=>0<=i/\i<=(ls.length:Int)/\out=ls.take i.toNat,fun s_=>match s_ with|(i,out)=>ls.length-i.toNat,⟨(0,[]),?_,?_⟩,?_⟩;rotate_left;(focus (cbv;done));intro s_ hi;obtain⟨i,out⟩:=s_;replace hi:0<=i/\i<=(ls.length:Int)/\out=ls.take i.toNat:=hi;obtain⟨i0,i1,i2⟩:=hi;cbv)|(refine af (O.ar .add Za i 1,O.cat out [[.s 1 (O.gs ls i 0)]]) ?_ ?_ ?_;focus (cbv;done))|(refine af (O.ar .add Za i 1,O.cat out [[.s 1 (O.cat [] (O.gs ls i 0))]]) ?_ ?_ ?_;focus (cbv;done))
 all_goals exact agm
def eL:EC:=fun F=>fun
 |[.agg [.s 1 b,.s 1 x]]=>some (fun _=>Rw [.sl [tI,tI]] b/\Rw [.sl [tI]] x/\au b<=1099511627776/\au x<=1099511627776,[.agg [.s 1 b,.s 1 x]])
 |_=>none
def xS:ec 136 eL:=by
 intro _ _ _ h hp;dsimp only[eL,F0]at h;split at h<;>cases h
 rename_i b x;obtain⟨wb,wx,nb,nx⟩:=hp;have hl1:=aS (es:=b);have hl2:=aS (es:=x);refine cb Ia3 Tryz.func136 ?_
 intro O r F hO hr hF;cbv
 repeat' first|apply Zb|(apply bC<;>intro hb<;>cbv)|(refine⟨[1,2,3,10,11,12],[1,2,3],Int×ab,fun s_=>match s_ with|(i,out)=>[.reg 12 (.j i),.leaf 3 0 ⟨0,0,none,.own (.s 1 out)⟩],fun s_=>match s_ with|(i,out)=>0<=i/\i<=(b.length:Int)/\out=b.take i.toNat,fun s_=>match s_ with|(i,out)=>b.length-i.toNat,⟨(0,[]),?_,?_⟩,?_⟩;rotate_left;(focus (cbv;done));intro s_ hi;obtain⟨i,out⟩:=s_;replace hi:0<=i/\i<=(b.length:Int)/\out=b.take i.toNat:=hi;obtain⟨i0,i1,i2⟩:=hi;cbv)|(refine⟨[2,3,26,27,28],[2,3],Int×ab,fun s_=>match s_ with|(k,ou2)=>[.reg 28 (.j k),.leaf 3 1 ⟨0,0,none,.own (.s 1 ou2)⟩],fun s_=>match s_ with|(k,ou2)=>0<=k/\k<=(x.length:Int)/\ou2=x.take k.toNat,fun s_=>match s_ with|(k,ou2)=>x.length-k.toNat,⟨(0,[]),?_,?_⟩,?_⟩;rotate_left;(focus (cbv;done));intro s_ hk;obtain⟨k,ou2⟩:=s_;replace hk:0<=k/\k<=(x.length:Int)/\ou2=x.take k.toNat:=hk;obtain⟨k0,k1,k2⟩:=hk;cbv)|(refine af (O.ar .add Za i 1,O.cat out [[.s 2 (O.cat [] (O.gs b i 0))]]) ?_ ?_ ?_;focus (cbv;done))|(refine af (O.ar .add Za k 1,O.cat ou2 [[.s 1 (O.gs x k 0)]]) ?_ ?_ ?_;focus (cbv;done))|(refine af (O.ar .add Za k 1,O.cat ou2 [[.s 1 (O.cat [] (O.gs x k 0))]]) ?_ ?_ ?_;focus (cbv;done))
 all_goals exact agl
def AP:ec 198 eL:=by
 intro _ _ _ h hp;dsimp only[eL,F0]at h;split at h<;>cases h
 rename_i b x;obtain⟨wb,wx,nb,nx⟩:=hp;have hl1:=aS (es:=b);have hl2:=aS (es:=x);refine cb Ia3 Tryz.func198 ?_
 intro O r F hO hr hF;cbv
 repeat' first|apply Zb|(apply bC<;>intro hb<;>cbv)|(refine⟨[1,2,3,4],[1,2,3],Int×ab,fun s_=>match s_ with|(i,out)=>[.reg 4 (.j i),.leaf 3 0 ⟨0,0,none,.own (.s 1 out)⟩],fun s_=>match s_ with|(i,out)=>0<=i/\i<=(b.length:Int)/\out=b.take i.toNat,fun s_=>match s_ with|(i,out)=>b.length-i.toNat,⟨(0,[]),?_,?_⟩,?_⟩;rotate_left;(focus (cbv;done));intro s_ hi;obtain⟨i,out⟩:=s_;replace hi:0<=i/\i<=(b.length:Int)/\out=b.take i.toNat:=hi;obtain⟨i0,i1,i2⟩:=hi;cbv)|(refine⟨[1,2,3,5],[1,2,3],Int×ab,fun s_=>match s_ with|(k,ou2)=>[.reg 5 (.j k),.leaf 3 1 ⟨0,0,none,.own (.s 1 ou2)⟩],fun s_=>match s_ with|(k,ou2)=>0<=k/\k<=(x.length:Int)/\ou2=x.take k.toNat,fun s_=>match s_ with|(k,ou2)=>x.length-k.toNat,⟨(0,[]),?_,?_⟩,?_⟩;rotate_left;(focus (cbv;done));intro s_ hk;obtain⟨k,ou2⟩:=s_;replace hk:0<=k/\k<=(x.length:Int)/\ou2=x.take k.toNat:=hk;obtain⟨k0,k1,k2⟩:=hk;cbv)|(refine af (O.ar .add Za i 1,O.cat out [[.s 2 (O.cat [] (O.gs b i 0))]]) ?_ ?_ ?_;focus (cbv;done))|(refine af (O.ar .add Za k 1,O.cat ou2 [[.s 1 (O.gs x k 0)]]) ?_ ?_ ?_;focus (cbv;done))|(refine af (O.ar .add Za k 1,O.cat ou2 [[.s 1 (O.cat [] (O.gs x k 0))]]) ?_ ?_ ?_;focus (cbv;done))
 all_goals exact agl
abbrev Ia4:cT:=dG (fun F f=>match f with|133=>bY F|134=>iJ F|135=>dY F|136=>eL F|137=>eM F|138=>dt F|196=>bY F|197=>dY F|198=>eL F|199=>eM F|200=>dt F|_=>fun _=>none) (by
 intro f;dsimp only;split;exact eP;exact tR;exact vH;exact xS;exact xT;exact qV;exact AJ;exact AO;exact AP;exact AQ;exact q7;exact cX)
def eK:EC:=fun F=>fun
 |[.agg hl_]=>hL hl_ fun a0 a1 a2 a3 a4 a5 a6 a7 a8 a9 aA aB aC aD aE aF aG aH aI aJ aK aL aM aN=>(fun _=>Jm a0 a1 a2 a4 a5 a6 a7 a8 a9 aA aB aD aL,[.agg (hpL a0 a1 a2 a3 a4 a5 a6 a7 a8 a9 aA aB aC aD aE aF aG aH aI aJ aK aL aM aN)])
 |_=>none
def ka:ec 36 eK:=by
 intro _ _ _ h hp;dsimp only[eK,F0,hL]at h;split at h;rotate_left;cases h;split at h<;>cases h
 rename_i a0 a1 a2 a3 a4 a5 a6 a7 a8 a9 aA aB aC aD aE aF aG aH aI aJ aK aL aM aN;have hr0:=hp.r0;have hc0:=hp.c0;have hl0:=aS (es:=a0);have hr1:=hp.r1;have hc1:=hp.c1;have hl1:=aS (es:=a1);have hr2:=hp.r2;have hc2:=hp.c2;have hl2:=aS (es:=a2);have hr4:=hp.r4;have hc4:=hp.c4;have hl4:=aS (es:=a4);have hr5:=hp.r5;have hc5:=hp.c5;have hl5:=aS (es:=a5);have hr6:=hp.r6;have hc6:=hp.c6;have hl6:=aS (es:=a6);have hr7:=hp.r7;have hc7:=hp.c7;have hl7:=aS (es:=a7);have hr8:=hp.r8;have hc8:=hp.c8;have hl8:=aS (es:=a8);have hr9:=hp.r9;have hc9:=hp.c9;have hl9:=aS (es:=a9);have hr10:=hp.r10;have hc10:=hp.c10;have hl10:=aS (es:=aA);have hr11:=hp.r11;have hc11:=hp.c11;have hl11:=aS (es:=aB);have hr13:=hp.r13;have hc13:=hp.c13;have hl13:=aS (es:=aD);have hr21:=hp.r21;have hc21:=hp.c21;have hl21:=aS (es:=aL);have hs5:=hr5.scal rfl;have hs6:=hr6.scal rfl;have hs7:=hr7.scal rfl;have hs8:=hr8.scal rfl;refine cb Ia4 Tryz.func36 ?_
 intro O r F hO hr hF;cbv
 repeat' first|apply Zb|(apply bC<;>intro hb<;>cbv)|(refine⟨[1,2,3,32,33,34],[1,2,3],Int×ab,fun s_=>match s_ with|(i,out)=>[.reg 34 (.j i),.leaf 3 9 ⟨0,0,none,.own (.s 1 out)⟩],fun s_=>match s_ with|(i,out)=>0<=i/\i<=(a9.length:Int)/\out=a9.take i.toNat,fun s_=>match s_ with|(i,out)=>a9.length-i.toNat,⟨(0,[]),?_,?_⟩,?_⟩;rotate_left;(focus (cbv;done));intro s_ hi;obtain⟨i,out⟩:=s_;replace hi:0<=i/\i<=(a9.length:Int)/\out=a9.take i.toNat:=hi;obtain⟨i0,i1,i2⟩:=hi;cbv)|(refine af (O.ar .add Za i 1,O.cat out [[.s 1 (O.gs a9 i 0)]]) ?_ ?_ ?_;focus (cbv;done))
 all_goals exact ago
def AR:ec 90 eK:=by
 intro _ _ _ h hp;dsimp only[eK,F0,hL]at h;split at h;rotate_left;cases h;split at h<;>cases h
 rename_i a0 a1 a2 a3 a4 a5 a6 a7 a8 a9 aA aB aC aD aE aF aG aH aI aJ aK aL aM aN;have hr0:=hp.r0;have hc0:=hp.c0;have hl0:=aS (es:=a0);have hr1:=hp.r1;have hc1:=hp.c1;have hl1:=aS (es:=a1);have hr2:=hp.r2;have hc2:=hp.c2;have hl2:=aS (es:=a2);have hr4:=hp.r4;have hc4:=hp.c4;have hl4:=aS (es:=a4);have hr5:=hp.r5;have hc5:=hp.c5;have hl5:=aS (es:=a5);have hr6:=hp.r6;have hc6:=hp.c6;have hl6:=aS (es:=a6);have hr7:=hp.r7;have hc7:=hp.c7;have hl7:=aS (es:=a7);have hr8:=hp.r8;have hc8:=hp.c8;have hl8:=aS (es:=a8);have hr9:=hp.r9;have hc9:=hp.c9;have hl9:=aS (es:=a9);have hr10:=hp.r10;have hc10:=hp.c10;have hl10:=aS (es:=aA);have hr11:=hp.r11;have hc11:=hp.c11;have hl11:=aS (es:=aB);have hr13:=hp.r13;have hc13:=hp.c13;have hl13:=aS (es:=aD);have hr21:=hp.r21;have hc21:=hp.c21;have hl21:=aS (es:=aL);have hs5:=hr5.scal rfl;have hs6:=hr6.scal rfl;have hs7:=hr7.scal rfl;have hs8:=hr8.scal rfl;refine cb Ia4 Tryz.func90 ?_
 intro O r F hO hr hF;cbv
 repeat' first|apply Zb|(apply bC<;>intro hb<;>cbv)|(refine⟨[1,2,3,4],[1,2,3],Int×ab,fun s_=>match s_ with|(i,out)=>[.reg 4 (.j i),.reg 3 (.one (.vw 3 0 0 0 (O.ln out))),.leaf 3 0 ⟨0,0,none,.own (.s 1 out)⟩],fun s_=>match s_ with|(i,out)=>0<=i/\i<=(a9.length:Int)/\out=a9.take i.toNat,fun s_=>match s_ with|(i,out)=>a9.length-i.toNat,⟨(0,[]),?_,?_⟩,?_⟩;rotate_left;(focus (cbv;done));intro s_ hi;obtain⟨i,out⟩:=s_;replace hi:0<=i/\i<=(a9.length:Int)/\out=a9.take i.toNat:=hi;obtain⟨i0,i1,i2⟩:=hi;cbv)|(refine af (O.ar .add Za i 1,O.cat out [[.s 1 (O.gs a9 i 0)]]) ?_ ?_ ?_;focus (cbv;done))
 all_goals exact ago
end Go.V