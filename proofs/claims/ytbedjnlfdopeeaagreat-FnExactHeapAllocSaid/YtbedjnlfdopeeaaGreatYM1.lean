/- Contracts. -/
import Derived.Test.YtbedjnlfdopeeaaGreatYM0
import Derived.Test.YtbedjnlfdopeeaaGreatYW3
set_option linter.all false
open Go
open And renaming intro->Zb
open IntKind renaming i64->Za
open List renaming length_nil->Zs,length_take->Zk,length_cons->Zp
namespace Go.V
open Go Go.Proofs
set_option maxRecDepth 1000000
set_option maxHeartbeats 8000000
abbrev KA1:cZ:=eK (fun F f=>match f with|41=>aj F|28=>aj F|_=>fun _=>none) (by
 intro f;dsimp only;split;exact bc;exact bi;exact db)
def dR:EC:=fun F=>fun
 |[.agg [.s 1 cs,.s 1 us]]=>some (fun _=>Rw [.sl [tI]] cs/\Rw [tB] us,[.k (F.framesOk cs us)])
 |_=>none
theorem pK:ec 313 dR:=by
 intro _ _ _ h hp;dsimp only[dR,F0]at h;split at h<;>cases h
 rename_i cs us;obtain⟨hc,hu⟩:=hp;have hcw:=hc.wf;have huw:=hu.wf;have hlen:=hc.1;unfold maxLen at hlen;refine cb KA1 Tryz.func313 ?_
 intro O r F hO hr hF;cbv
 repeat' first|apply Zb|(apply bG<;>intro hb<;>cbv)|(refine⟨[1,22,23,24],[1],Int,fun i=>[.reg 24 (.j i)],fun i=>0<=i/\i<=((cs.length:Nat):Int)/\upto (ir cs us) i,fun i=>(cs.length)-i.toNat,⟨0,?_,?_⟩,?_⟩;rotate_left;(focus (cbv;done));intro i hi;replace hi:0<=i/\i<=((cs.length:Nat):Int)/\upto (ir cs us) i:=hi;obtain⟨i0,i1,i2⟩:=hi;cbv)|(refine ag (O.ar .add Za i 1) ?_ ?_ ?_;focus (cbv;done))|(refine⟨[1,3,22,23,24,32,33,34],[1],Int,fun k=>[.reg 34 (.j k)],fun k=>0<=k/\k<=(((O.gs cs i 0).length:Nat):Int)/\upto (nG cs us i) k,fun k=>((O.gs cs i 0).length)-k.toNat,⟨0,?_,?_⟩,?_⟩;rotate_left;(focus (cbv;done));intro k hk;replace hk:0<=k/\k<=(((O.gs cs i 0).length:Nat):Int)/\upto (nG cs us i) k:=hk;obtain⟨k0,k1,k2⟩:=hk;cbv)|(refine ag (O.ar .add Za k 1) ?_ ?_ ?_;focus (cbv;done))
 all_goals exact afo
theorem xU:ec 329 dR:=by
 intro _ _ _ h hp;dsimp only[dR,F0]at h;split at h<;>cases h
 rename_i cs us;obtain⟨hc,hu⟩:=hp;have hlen:=hc.1;unfold maxLen at hlen;refine cb KA1 Tryz.func329 ?_
 intro O r F hO hr hF;cbv
 repeat' first|apply Zb|(apply bG<;>intro hb<;>cbv)|(refine⟨[1,3],[1],Int,fun i=>[.reg 3 (.j i)],fun i=>0<=i/\i<=((cs.length:Nat):Int)/\upto (ir cs us) i,fun i=>(cs.length)-i.toNat,⟨0,?_,?_⟩,?_⟩;rotate_left;(focus (cbv;done));intro i hi;replace hi:0<=i/\i<=((cs.length:Nat):Int)/\upto (ir cs us) i:=hi;obtain⟨i0,i1,i2⟩:=hi;cbv)|(refine ag (O.ar .add Za i 1) ?_ ?_ ?_;focus (cbv;done))|(refine⟨[1,3,4],[1],Int,fun k=>[.reg 4 (.j k)],fun k=>0<=k/\k<=((16:Nat):Int)/\upto (nG cs us i) k,fun k=>(16)-k.toNat,⟨0,?_,?_⟩,?_⟩;rotate_left;(focus (cbv;done));intro k hk;replace hk:0<=k/\k<=((16:Nat):Int)/\upto (nG cs us i) k:=hk;obtain⟨k0,k1,k2⟩:=hk;cbv)|(refine ag (O.ar .add Za k 1) ?_ ?_ ?_;focus (cbv;done))
 all_goals exact afo
def fB:EC:=fun F=>fun
 |[.agg [.s 2 es],.one (.v (.int Za n))]=>some (fun _=>Rw [tI,tI] es,[.k (F.tableOk es n)])
 |_=>none
theorem yS:ec 314 fB:=by
 intro _ _ _ h hp;dsimp only[fB,F0]at h;split at h<;>cases h
 rename_i es n;have hlen:=hp.1;unfold maxLen at hlen;refine cb KA1 Tryz.func314 ?_
 intro O r F hO hr hF;cbv
 repeat' first|apply Zb|(apply bG<;>intro hb<;>cbv)|(refine⟨[1,2,8,9,10],[2],Int,fun i=>[.reg 10 (.j i)],fun i=>0<=i/\i<=((es.length:Nat):Int)/\upto (qO es n) i,fun i=>(es.length)-i.toNat,⟨0,?_,?_⟩,?_⟩;rotate_left;(focus (cbv;done));intro i hi;replace hi:0<=i/\i<=((es.length:Nat):Int)/\upto (qO es n) i:=hi;obtain⟨i0,i1,i2⟩:=hi;cbv)|(refine ag (O.ar .add Za i 1) ?_ ?_ ?_;focus (cbv;done))
 all_goals exact afz
theorem zG:ec 330 fB:=by
 intro _ _ _ h hp;dsimp only[fB,F0]at h;split at h<;>cases h
 rename_i es n;have hlen:=hp.1;unfold maxLen at hlen;refine cb KA1 Tryz.func330 ?_
 intro O r F hO hr hF;cbv
 repeat' first|apply Zb|(apply bG<;>intro hb<;>cbv)|(refine⟨[1,2,5],[2],Int,fun i=>[.reg 5 (.j i)],fun i=>0<=i/\i<=((es.length:Nat):Int)/\upto (qO es n) i,fun i=>(es.length)-i.toNat,⟨0,?_,?_⟩,?_⟩;rotate_left;(focus (cbv;done));intro i hi;replace hi:0<=i/\i<=((es.length:Nat):Int)/\upto (qO es n) i:=hi;obtain⟨i0,i1,i2⟩:=hi;cbv)|(refine ag (O.ar .add Za i 1) ?_ ?_ ?_;focus (cbv;done))
 all_goals exact afz
def fV:EC:=fun F=>fun
 |[.one (.s 1 es)]=>some (fun _=>Rw [tI] es/\es.length<=1099511627776,[.one (.s 1 es)])
 |_=>none
theorem kv:ec 222 fV:=by
 intro _ _ _ h hp;dsimp only[fV,F0]at h;split at h<;>cases h
 rename_i es;obtain⟨hw,hl⟩:=hp;have hs:=hw.scal rfl;refine cb nB Tryz.func222 ?_
 intro O r F hO hr hF;cbv
 repeat' first|apply Zb|(apply bG<;>intro hb<;>cbv)
 all_goals(subst hO hr hF;(try simp only[nc]at*);(try simp only[ai,SS,sa,az]at*))
 all_goals first|exact hs|trivial|(simp only[Zs];omega)|trace_state
abbrev KD4:cZ:=eK (fun F f=>match f with|313=>dR F|314=>fB F|315=>cO F|_=>fun _=>none) (by
 intro f;dsimp only;split;exact pK;exact yS;exact lN;exact db)
def eg:EC:=fun F=>fun
 |[.agg [.s 1 cs,.s 1 us,.s 2 es]]=>some (fun _=>Rw [.sl [tI]] cs/\Rw [tB] us/\Rw [tI,tI] es,[.k (F.machOk cs us es)])
 |_=>none
theorem uY:ec 224 eg:=by
 intro _ _ _ h hp;dsimp only[eg,F0]at h;split at h<;>cases h
 rename_i cs us es;obtain⟨hc,hu,ht⟩:=hp;have hm:=hu.1;unfold maxLen at hm;refine cb KD4 Tryz.func224 ?_
 intro O r F hO hr hF;cbv
 repeat' first|apply Zb|(apply bG<;>intro hb<;>cbv)|(refine⟨[1,21,22,23],[1],Int,fun i=>[.reg 23 (.j i)],fun i=>0<=i/\i<=((us.length:Nat):Int)/\upto (om us es) i,fun i=>(us.length)-i.toNat,⟨0,?_,?_⟩,?_⟩;rotate_left;(focus (cbv;done));intro i hi;replace hi:0<=i/\i<=((us.length:Nat):Int)/\upto (om us es) i:=hi;obtain⟨i0,i1,i2⟩:=hi;cbv)|(refine ag (O.ar .add Za i 1) ?_ ?_ ?_;focus (cbv;done))
 all_goals(subst hO hr hF;(try simp only[nc]at*);(try simp only[ai,SS,sa,az]at*);(try simp only[IY]at*);(try rw[cQ (by omega) (by omega)]);(try(have hfl:=vH (cs:=cs) (us:=us) (by assumption)));(try(have htl:=A6 (es:=es) (n:=(us.length:Int)) (by assumption)));(try(have htl:=A6 (es:=es) (n:=(cs.length:Int)) (by assumption))))
 all_goals first|omega|exact fU|exact bB|exact⟨hc,hu⟩|exact⟨ht,by omega⟩|exact ak (I3 (.inl (by assumption))).symm|exact ak (aaj (by assumption) (by assumption)).symm|exact ak (Mk i0 (by omega) (by assumption)).symm|exact aV i2 (Mj (by assumption))|exact ak (HC (by assumption) (by assumption) i2 (by omega)).symm|trace_state
abbrev KD5:cZ:=eK (fun F f=>match f with|329=>dR F|330=>fB F|331=>cO F|_=>fun _=>none) (by
 intro f;dsimp only;split;exact xU;exact zG;exact lU;exact db)
theorem vB:ec 257 eg:=by
 intro _ _ _ h hp;dsimp only[eg,F0]at h;split at h<;>cases h
 rename_i cs us es;obtain⟨hc,hu,ht⟩:=hp;have hm:=hu.1;unfold maxLen at hm;refine cb KD5 Tryz.func257 ?_
 intro O r F hO hr hF;cbv
 repeat' first|apply Zb|(apply bG<;>intro hb<;>cbv)|(refine⟨[1,3],[1],Int,fun i=>[.reg 3 (.j i)],fun i=>0<=i/\i<=((us.length:Nat):Int)/\upto (om us es) i,fun i=>(us.length)-i.toNat,⟨0,?_,?_⟩,?_⟩;rotate_left;(focus (cbv;done));intro i hi;replace hi:0<=i/\i<=((us.length:Nat):Int)/\upto (om us es) i:=hi;obtain⟨i0,i1,i2⟩:=hi;cbv)|(refine ag (O.ar .add Za i 1) ?_ ?_ ?_;focus (cbv;done))
 all_goals(subst hO hr hF;(try simp only[nc]at*);(try simp only[ai,SS,sa,az]at*);(try simp only[IY]at*);(try rw[cQ (by omega) (by omega)]);(try(have hfl:=vH (cs:=cs) (us:=us) (by assumption)));(try(have htl:=A6 (es:=es) (n:=(us.length:Int)) (by assumption)));(try(have htl:=A6 (es:=es) (n:=(cs.length:Int)) (by assumption))))
 all_goals first|omega|exact fU|(show aP _ _=true;kernel_rfl)|exact bB|exact⟨hc,hu⟩|exact⟨ht,by omega⟩|exact ak (I3 (.inl (by assumption))).symm|exact ak (I3 (.inr (by assumption))).symm|exact ak (Mk i0 (by omega) (by assumption)).symm|exact aV i2 (Mj (by assumption))|(refine ak (HC (by assumption) ?_ i2 (by omega)).symm;rw[hfl.1];assumption)|trace_state
abbrev N3:cZ:=eK (fun F f=>match f with|41=>aj F|28=>aj F|224=>eg F|257=>eg F|_=>fun _=>none) (by
 intro f;dsimp only;split;exact bc;exact bi;exact uY;exact vB;exact db)
def dm:EC:=fun F=>fun
 |[.agg [.s 1 cs,.s 1 us,.s 2 es,.v (.int Za c),.s 1 rs]]=>some (fun _=>Rw [.sl [tI]] cs/\Rw [tB] us/\Rw [tI,tI] es/\Rw [tI] rs,[.k (F.kerOk cs us es c rs)])
 |_=>none
theorem pL:ec 124 dm:=by
 intro _ _ _ h hp;dsimp only[dm,F0]at h;split at h<;>cases h
 rename_i cs us es c rs;obtain⟨hc,hu,ht,hr⟩:=hp;have hm:=hr.1;unfold maxLen at hm;refine cb N3 Tryz.func124 ?_
 intro O r F hO hr hF;cbv
 repeat' first|apply Zb|(apply bG<;>intro hb<;>cbv)|(refine⟨[1,6,7,8],[1],Int,fun i=>[.reg 8 (.j i)],fun i=>0<=i/\i<=((rs.length:Nat):Int)/\upto (FT rs) i,fun i=>(rs.length)-i.toNat,⟨0,?_,?_⟩,?_⟩;rotate_left;(focus (cbv;done));intro i hi;replace hi:0<=i/\i<=((rs.length:Nat):Int)/\upto (FT rs) i:=hi;obtain⟨i0,i1,i2⟩:=hi;cbv)|(refine ag (O.ar .add Za i 1) ?_ ?_ ?_;focus (cbv;done))
 all_goals(subst hO hr hF;(try simp only[nc]at*);(try simp only[ai,SS,sa,az]at*);(try rw[cQ (by omega) (by omega)]))
 all_goals first
  | (show(_:List DV)=_
     first
      |exact ak (M3 i0 (by assumption) (by assumption)).symm
      |exact ak (IP (by assumption)).symm
      |exact ak (O2 (Px (by omega))).symm
      |(refine ak ?_;unfold kerOk;rw[show inR c 0 100000=true from by assumption,Py i2 (by omega) (by omega)];simp)
      |done)
  |omega
  |exact fU
  |exact bB
  |exact aV i2 (M2 (by omega))
  |exact⟨hc,hu,ht⟩
  |trace_state
theorem pU:ec 164 dm:=by
 intro _ _ _ h hp;dsimp only[dm,F0]at h;split at h<;>cases h
 rename_i cs us es c rs;obtain⟨hc,hu,ht,hr⟩:=hp;have hm:=hr.1;unfold maxLen at hm;refine cb N3 Tryz.func164 ?_
 intro O r F hO hr hF;cbv
 repeat' first|apply Zb|(apply bG<;>intro hb<;>cbv)|(refine⟨[1,3],[1],Int,fun i=>[.reg 3 (.j i)],fun i=>0<=i/\i<=((rs.length:Nat):Int)/\upto (FT rs) i,fun i=>(rs.length)-i.toNat,⟨0,?_,?_⟩,?_⟩;rotate_left;(focus (cbv;done));intro i hi;replace hi:0<=i/\i<=((rs.length:Nat):Int)/\upto (FT rs) i:=hi;obtain⟨i0,i1,i2⟩:=hi;cbv)|(refine ag (O.ar .add Za i 1) ?_ ?_ ?_;focus (cbv;done))
 all_goals(subst hO hr hF;(try simp only[nc]at*);(try simp only[ai,SS,sa,az]at*);(try rw[cQ (by omega) (by omega)]))
 all_goals first
  | (show(_:List DV)=_
     first
      |exact ak (M3 i0 (by assumption) (by assumption)).symm
      |exact ak (O1 (by assumption)).symm
      |exact ak (IP (by assumption)).symm
      |(refine ak ?_;unfold kerOk rt;rw[show machOk cs us es=true from by assumption,show inR c 0 100000=true from by assumption,bM i2 (by omega)];refine hE ?_;simp only[SS,Bool.true_and,VQ];omega)
      |done)
  |omega
  |exact fU
  |exact bB
  |exact aV i2 (M2 (by omega))
  |exact⟨hc,hu,ht⟩
  |trace_state
abbrev Qj:cZ:=eK (fun F f=>match f with|222=>fV F|_=>fun _=>none) (by
 intro f;dsimp only;split;exact kv;exact db)
def eh:EC:=fun F=>fun
 |[.agg [.s 2 es]]=>some (fun _=>Rw [tI,tI] es/\es.length<=1099511627776,[.agg [.s 2 es]])
 |_=>none
theorem u6:ec 311 eh:=by
 intro _ _ _ h hp;dsimp only[eh,F0]at h;split at h<;>cases h
 rename_i es;obtain⟨hw,hl⟩:=hp;have hs:=hw.scal rfl;refine cb Qj Tryz.func311 ?_
 exact Sg
theorem zJ:ec 304 eh:=by
 intro _ _ _ h hp;dsimp only[eh,F0]at h;split at h<;>cases h
 rename_i es;obtain⟨hw,hl⟩:=hp;have hs:=hw.scal rfl;refine cb Qj Tryz.func304 ?_
 exact Sg
def gA:EC:=fun F=>fun
 |[.one (.s 2 es)]=>some (fun _=>Rw [tI,tI] es/\es.length<=1099511627776,[.one (.s 2 es)])
 |_=>none
theorem ni:ec 119 gA:=by
 intro _ _ _ h hp;dsimp only[gA,F0]at h;split at h<;>cases h
 rename_i es;obtain⟨hw,hl⟩:=hp;have hs:=hw.scal rfl;refine cb Qj Tryz.func119 ?_
 exact Sg
def eU:EC:=fun F=>fun
 |[.agg [.v (.int Za r),.s 3 qs]]=>some (fun _=>Rw [tI,tI,tI] qs/\qs.length<=1099511627776,[.agg [.i r,.s 3 qs]])
 |_=>none
theorem xc:ec 122 eU:=by
 intro _ _ _ h hp;dsimp only[eU,F0]at h;split at h<;>cases h
 rename_i r qs;obtain⟨hw,hl⟩:=hp;have hs:=hw.scal rfl;refine cb Qj Tryz.func122 ?_
 exact Sg
theorem zS:ec 103 eU:=by
 intro _ _ _ h hp;dsimp only[eU,F0]at h;split at h<;>cases h
 rename_i r qs;obtain⟨hw,hl⟩:=hp;have hs:=hw.scal rfl;refine cb Qj Tryz.func103 ?_
 exact Sg
def Tryz.laysC15_ren:Go.Shelf.Ren:=⟨fun|15=>312|n=>n,fun|22=>31|3=>3|4=>4|n=>n,fun|n=>n⟩
theorem Tryz.laysC15:Lays2.n15 Tryz.prog Tryz.laysC15_ren:=⟨by kernel_rfl,Tryz.func312.trans (congrArg some (by kernel_rfl)),Tryz.underlying3,Tryz.isAgg3,Tryz.sizeOf3,Tryz.zeroValue3,Tryz.underlying4,Tryz.isAgg4,Tryz.sizeOf4,Tryz.zeroValue4,Tryz.underlying31,Tryz.isAgg31,Tryz.sizeOf31,Tryz.zeroValue31,by kernel_rfl⟩
def fQ:EC:=fun F=>fun
 |[.one (.s 1 l)]=>some (fun _=>Rw [tI] l/\l.length<=1099511627776,[.one (.s 1 l)])
 |_=>none
theorem oZ:ec 312 fQ:=by
 intro _ _ _ h hp;dsimp only[fQ,F0]at h;split at h<;>cases h
 rename_i l;exact JK (Any.slices_Clone_int_nil Tryz.laysC15) (Any.slices_Clone_int_zero Tryz.laysC15) (Any.slices_Clone_int Tryz.laysC15) l hp
def fK:EC:=fun F=>fun
 |[.agg [.v (.int Za k),.v (.int Za m),.s 1 cs,.v (.int Za p),.v (.int Za n)]]=>some (fun _=>Rw [tI] cs/\cs.length<=1099511627776,[.agg [.i k,.i m,.s 1 cs,.i p,.i n]])
 |_=>none
theorem zP:ec 104 fK:=by
 intro _ _ _ h hp;dsimp only[fK,F0]at h;split at h<;>cases h
 rename_i k m cs p n;obtain⟨hw,hl⟩:=hp;have hs:=hw.scal rfl;refine cb Qj Tryz.func104 ?_
 exact Sg
def cM:EC:=fun F=>fun
 |[.agg [.s 1 cs,.s 1 us]]=>some (fun _=>Rw [.sl [tI]] cs/\Rw [tB] us/\am cs<=1099511627776/\am us<=1099511627776,[.agg [.s 1 cs,.s 1 us]])
 |_=>none
theorem iM:ec 310 cM:=by
 intro _ _ _ h hp;dsimp only[cM,F0]at h;split at h<;>cases h
 rename_i cs us;obtain⟨hc,hu,hn,hm⟩:=hp;have hs:=hu.scal rfl;have hl1:=aw (es:=cs);have hl2:=aw (es:=us);refine cb Qj Tryz.func310 ?_
 intro O r F hO hr hF;cbv
 repeat' first|apply Zb|(apply bG<;>intro hb<;>cbv)|(refine⟨[2,3,12,13,14],[2,3],Int×af,fun s_=>match s_ with|(i,out)=>[.reg 14 (.j i),.leaf 3 0 ⟨0,0,none,.own (.s 1 out)⟩],fun s_=>match s_ with|(i,out)=>0<=i/\i<=(cs.length:Int)/\out=cs.take i.toNat,fun s_=>match s_ with|(i,out)=>cs.length-i.toNat,⟨(0,[]),?_,?_⟩,?_⟩;rotate_left;(focus (cbv;done));intro s_ hi;obtain⟨i,out⟩:=s_;replace hi:0<=i/\i<=(cs.length:Int)/\out=cs.take i.toNat:=hi;obtain⟨i0,i1,i2⟩:=hi;cbv)|(refine ag (O.ar .add Za i 1,O.cat out [[.s 1 (O.gs cs i 0)]]) ?_ ?_ ?_;focus (cbv;done))
 all_goals(subst hO hr hF;(try simp only[nc]at*);(try simp only[ai,SS,sa,az]at*);(try rw[cQ (by omega) (by omega)]);(try(have hol:out.length=i.toNat:=(by rw[i2,Zk];omega)));(try(have hsc:=rY hc i0 (by assumption);have hsl:=aw (es:=ax cs i 0))))
 all_goals first|exact hs|omega|exact fU|(show aP _ _=true;kernel_rfl)|exact⟨by(first|assumption|exact Rw.sub (by first|assumption|exact Rw.sub (by assumption) (by omega) rfl) (by omega) rfl),by omega⟩|(simp only[Zs,Zp];omega)|(rw[i2];exact(jt hc i0 (by assumption)).symm)|(rw[i2,js (by omega)];rfl)|exact⟨trivial,trivial⟩|trivial|exact rfl|trace_state
theorem zH:ec 303 cM:=by
 intro _ _ _ h hp;dsimp only[cM,F0]at h;split at h<;>cases h
 rename_i cs us;obtain⟨hc,hu,hn,hm⟩:=hp;have hs:=hu.scal rfl;have hl1:=aw (es:=cs);have hl2:=aw (es:=us);refine cb Qj Tryz.func303 ?_
 intro O r F hO hr hF;cbv
 repeat' first|apply Zb|(apply bG<;>intro hb<;>cbv)|(refine⟨[1,2,3,4],[1,2,3],Int×af,fun s_=>match s_ with|(i,out)=>[.reg 4 (.j i),.leaf 3 0 ⟨0,0,none,.own (.s 1 out)⟩],fun s_=>match s_ with|(i,out)=>0<=i/\i<=(cs.length:Int)/\out=cs.take i.toNat,fun s_=>match s_ with|(i,out)=>cs.length-i.toNat,⟨(0,[]),?_,?_⟩,?_⟩;rotate_left;(focus (cbv;done));intro s_ hi;obtain⟨i,out⟩:=s_;replace hi:0<=i/\i<=(cs.length:Int)/\out=cs.take i.toNat:=hi;obtain⟨i0,i1,i2⟩:=hi;cbv)|(refine ag (O.ar .add Za i 1,O.cat out [[.s 1 (O.gs cs i 0)]]) ?_ ?_ ?_;focus (cbv;done))|(refine ag (O.ar .add Za i 1,O.cat out [[.s 1 (O.cat [] (O.gs cs i 0))]]) ?_ ?_ ?_;focus (cbv;done))
 all_goals(subst hO hr hF;(try simp only[nc]at*);(try simp only[ai,SS,sa,az]at*);(try rw[cQ (by omega) (by omega)]);(try(have hol:out.length=i.toNat:=(by rw[i2,Zk];omega)));(try(have hsc:=rY hc i0 (by assumption);have hsl:=aw (es:=ax cs i 0))))
 all_goals first|exact hs|exact Rw.scal (fs:=[tI]) (by(first|assumption|exact Rw.sub (by first|assumption|exact Rw.sub (by assumption) (by omega) rfl) (by omega) rfl)) rfl|omega|exact fU|(show aP _ _=true;kernel_rfl)|exact⟨by(first|assumption|exact Rw.sub (by first|assumption|exact Rw.sub (by assumption) (by omega) rfl) (by omega) rfl),by omega⟩|(simp only[Zs,Zp];omega)|(rw[i2];exact(jt hc i0 (by assumption)).symm)|(rw[i2,List.nil_append];exact(jt hc i0 (by assumption)).symm)|(rw[i2,js (by omega)];rfl)|exact⟨trivial,trivial⟩|trivial|exact rfl|trace_state
abbrev Ia1:cZ:=eK (fun F f=>match f with|310=>cM F|311=>eh F|303=>cM F|304=>eh F|312=>fQ F|_=>fun _=>none) (by
 intro f;dsimp only;split;exact iM;exact u6;exact zH;exact zJ;exact oZ;exact db)
def dF:EC:=fun F=>fun
 |[.agg [.s 1 cs,.s 1 us,.s 2 es]]=>some (fun _=>Rw [.sl [tI]] cs/\Rw [tB] us/\Rw [tI,tI] es/\am cs<=1099511627776/\am us<=1099511627776/\am es<=1099511627776,[.agg [.s 1 cs,.s 1 us,.s 2 es]])
 |_=>none
theorem sL:ec 221 dF:=by
 intro _ _ _ h hp;dsimp only[dF,F0]at h;split at h<;>cases h
 rename_i cs us es;obtain⟨hc,hu,he,hn,hm,hk⟩:=hp;have hl:=aw (es:=es);refine cb Ia1 Tryz.func221 ?_
 exact afK
theorem zK:ec 212 dF:=by
 intro _ _ _ h hp;dsimp only[dF,F0]at h;split at h<;>cases h
 rename_i cs us es;obtain⟨hc,hu,he,hn,hm,hk⟩:=hp;have hl:=aw (es:=es);refine cb Ia1 Tryz.func212 ?_
 exact afK
def kD:EC:=fun F=>fun
 |[.agg [.v (.int Za k),.v (.int Za m),.s 1 cs]]=>some (fun _=>Rw [tI] cs/\cs.length<=1099511627776,[.agg [.i k,.i m,.s 1 cs]])
 |_=>none
theorem wZ:ec 223 kD:=by
 intro _ _ _ h hp;dsimp only[kD,F0]at h;split at h<;>cases h
 rename_i k m cs;obtain⟨hw,hl⟩:=hp;have hs:=hw.scal rfl;refine cb Ia1 Tryz.func223 ?_
 exact Sg
abbrev Ia2:cZ:=eK (fun F f=>match f with|221=>dF F|212=>dF F|222=>fV F|223=>kD F|_=>fun _=>none) (by
 intro f;dsimp only;split;exact sL;exact zK;exact kv;exact wZ;exact db)
def cA:EC:=fun F=>fun
 |[.agg [.s 1 cs,.s 1 us,.s 2 es,.v (.int Za c),.s 1 rs]]=>some (fun _=>Rw [.sl [tI]] cs/\Rw [tB] us/\Rw [tI,tI] es/\Rw [tI] rs/\am cs<=1099511627776/\am us<=1099511627776/\am es<=1099511627776/\am rs<=1099511627776,[.agg [.s 1 cs,.s 1 us,.s 2 es,.i c,.s 1 rs]])
 |_=>none
theorem gy:ec 118 cA:=by
 intro _ _ _ h hp;dsimp only[cA,F0]at h;split at h<;>cases h
 rename_i cs us es c rs;obtain⟨hc,hu,he,hr,hn,hm,hk,hl⟩:=hp;have l1:=aw (es:=rs);have hs:=hr.scal rfl;refine cb Ia2 Tryz.func118 ?_
 exact afG
theorem zN:ec 100 cA:=by
 intro _ _ _ h hp;dsimp only[cA,F0]at h;split at h<;>cases h
 rename_i cs us es c rs;obtain⟨hc,hu,he,hr,hn,hm,hk,hl⟩:=hp;have l1:=aw (es:=rs);have hs:=hr.scal rfl;refine cb Ia2 Tryz.func100 ?_
 exact afG
theorem yT:ec 123 fK:=by
 intro _ _ _ h hp;dsimp only[fK,F0]at h;split at h<;>cases h
 rename_i k m cs p n;obtain⟨hw,hl⟩:=hp;have hs:=hw.scal rfl;refine cb Ia2 Tryz.func123 ?_
 exact Sg
abbrev Ia3:cZ:=eK (fun F f=>match f with|222=>fV F|_=>fun _=>none) (by
 intro f;dsimp only;split;exact kv;exact db)
def cY:EC:=fun F=>fun
 |[.agg [.s 1 ls]]=>some (fun _=>Rw [.sl [tI]] ls/\am ls<=1099511627776,[.agg [.s 1 ls]])
 |_=>none
theorem oF:ec 120 cY:=by
 intro _ _ _ h hp;dsimp only[cY,F0]at h;split at h<;>cases h
 rename_i ls;obtain⟨hc,hn⟩:=hp;have hl1:=aw (es:=ls);refine cb Ia3 Tryz.func120 ?_
 intro O r F hO hr hF;cbv
 repeat' first|apply Zb|(apply bG<;>intro hb<;>cbv)|(refine⟨[2,3,8,9,10],[2,3],Int×af,fun s_=>match s_ with|(i,out)=>[.reg 10 (.j i),.leaf 3 0 ⟨0,0,none,.own (.s 1 out)⟩],fun s_=>match s_ with|(i,out)=>0<=i/\i<=(ls.length:Int)/\out=ls.take i.toNat,fun s_=>match s_ with|(i,out)=>ls.length-i.toNat,⟨(0,[]),?_,?_⟩,?_⟩;rotate_left;(focus (cbv;done));intro s_ hi;obtain⟨i,out⟩:=s_;replace hi:0<=i/\i<=(ls.length:Int)/\out=ls.take i.toNat:=hi;obtain⟨i0,i1,i2⟩:=hi;cbv)|(refine ag (O.ar .add Za i 1,O.cat out [[.s 1 (O.gs ls i 0)]]) ?_ ?_ ?_;focus (cbv;done))|(refine ag (O.ar .add Za i 1,O.cat out [[.s 1 (O.cat [] (O.gs ls i 0))]]) ?_ ?_ ?_;focus (cbv;done))
 all_goals exact afi
theorem qJ:ec 101 cY:=by
 intro _ _ _ h hp;dsimp only[cY,F0]at h;split at h<;>cases h
 rename_i ls;obtain⟨hc,hn⟩:=hp;have hl1:=aw (es:=ls);refine cb Ia3 Tryz.func101 ?_
 intro O r F hO hr hF;cbv
 repeat' first|apply Zb|(apply bG<;>intro hb<;>cbv)|(refine⟨[1,2,3,4],[1,2,3],Int×af,fun s_=>match s_ with|(i,out)=>[.reg 4 (.j i),.leaf 3 0 ⟨0,0,none,.own (.s 1 out)⟩],fun s_=>match s_ with|(i,out)=>0<=i/\i<=(ls.length:Int)/\out=ls.take i.toNat,fun s_=>match s_ with|(i,out)=>ls.length-i.toNat,⟨(0,[]),?_,?_⟩,?_⟩;rotate_left;(focus (cbv;done));intro s_ hi;obtain⟨i,out⟩:=s_;replace hi:0<=i/\i<=(ls.length:Int)/\out=ls.take i.toNat:=hi;obtain⟨i0,i1,i2⟩:=hi;cbv)|(refine ag (O.ar .add Za i 1,O.cat out [[.s 1 (O.gs ls i 0)]]) ?_ ?_ ?_;focus (cbv;done))|(refine ag (O.ar .add Za i 1,O.cat out [[.s 1 (O.cat [] (O.gs ls i 0))]]) ?_ ?_ ?_;focus (cbv;done))
 all_goals exact afi
def eS:EC:=fun F=>fun
 |[.agg [.s 1 b,.s 1 x]]=>some (fun _=>Rw [.sl [tI,tI]] b/\Rw [.sl [tI]] x/\am b<=1099511627776/\am x<=1099511627776,[.agg [.s 1 b,.s 1 x]])
 |_=>none
theorem wY:ec 121 eS:=by
 intro _ _ _ h hp;dsimp only[eS,F0]at h;split at h<;>cases h
 rename_i b x;obtain⟨wb,wx,nb,nx⟩:=hp;have hl1:=aw (es:=b);have hl2:=aw (es:=x);refine cb Ia3 Tryz.func121 ?_
 intro O r F hO hr hF;cbv
 repeat' first|apply Zb|(apply bG<;>intro hb<;>cbv)|(refine⟨[1,2,3,10,11,12],[1,2,3],Int×af,fun s_=>match s_ with|(i,out)=>[.reg 12 (.j i),.leaf 3 0 ⟨0,0,none,.own (.s 1 out)⟩],fun s_=>match s_ with|(i,out)=>0<=i/\i<=(b.length:Int)/\out=b.take i.toNat,fun s_=>match s_ with|(i,out)=>b.length-i.toNat,⟨(0,[]),?_,?_⟩,?_⟩;rotate_left;(focus (cbv;done));intro s_ hi;obtain⟨i,out⟩:=s_;replace hi:0<=i/\i<=(b.length:Int)/\out=b.take i.toNat:=hi;obtain⟨i0,i1,i2⟩:=hi;cbv)|(refine⟨[2,3,26,27,28],[2,3],Int×af,fun s_=>match s_ with|(k,ou2)=>[.reg 28 (.j k),.leaf 3 1 ⟨0,0,none,.own (.s 1 ou2)⟩],fun s_=>match s_ with|(k,ou2)=>0<=k/\k<=(x.length:Int)/\ou2=x.take k.toNat,fun s_=>match s_ with|(k,ou2)=>x.length-k.toNat,⟨(0,[]),?_,?_⟩,?_⟩;rotate_left;(focus (cbv;done));intro s_ hk;obtain⟨k,ou2⟩:=s_;replace hk:0<=k/\k<=(x.length:Int)/\ou2=x.take k.toNat:=hk;obtain⟨k0,k1,k2⟩:=hk;cbv)|(refine ag (O.ar .add Za i 1,O.cat out [[.s 2 (O.cat [] (O.gs b i 0))]]) ?_ ?_ ?_;focus (cbv;done))|(refine ag (O.ar .add Za k 1,O.cat ou2 [[.s 1 (O.gs x k 0)]]) ?_ ?_ ?_;focus (cbv;done))|(refine ag (O.ar .add Za k 1,O.cat ou2 [[.s 1 (O.cat [] (O.gs x k 0))]]) ?_ ?_ ?_;focus (cbv;done))
 all_goals exact afh
theorem zQ:ec 102 eS:=by
 intro _ _ _ h hp;dsimp only[eS,F0]at h;split at h<;>cases h
 rename_i b x;obtain⟨wb,wx,nb,nx⟩:=hp;have hl1:=aw (es:=b);have hl2:=aw (es:=x);refine cb Ia3 Tryz.func102 ?_
 intro O r F hO hr hF;cbv
 repeat' first|apply Zb|(apply bG<;>intro hb<;>cbv)|(refine⟨[1,2,3,4],[1,2,3],Int×af,fun s_=>match s_ with|(i,out)=>[.reg 4 (.j i),.leaf 3 0 ⟨0,0,none,.own (.s 1 out)⟩],fun s_=>match s_ with|(i,out)=>0<=i/\i<=(b.length:Int)/\out=b.take i.toNat,fun s_=>match s_ with|(i,out)=>b.length-i.toNat,⟨(0,[]),?_,?_⟩,?_⟩;rotate_left;(focus (cbv;done));intro s_ hi;obtain⟨i,out⟩:=s_;replace hi:0<=i/\i<=(b.length:Int)/\out=b.take i.toNat:=hi;obtain⟨i0,i1,i2⟩:=hi;cbv)|(refine⟨[1,2,3,5],[1,2,3],Int×af,fun s_=>match s_ with|(k,ou2)=>[.reg 5 (.j k),.leaf 3 1 ⟨0,0,none,.own (.s 1 ou2)⟩],fun s_=>match s_ with|(k,ou2)=>0<=k/\k<=(x.length:Int)/\ou2=x.take k.toNat,fun s_=>match s_ with|(k,ou2)=>x.length-k.toNat,⟨(0,[]),?_,?_⟩,?_⟩;rotate_left;(focus (cbv;done));intro s_ hk;obtain⟨k,ou2⟩:=s_;replace hk:0<=k/\k<=(x.length:Int)/\ou2=x.take k.toNat:=hk;obtain⟨k0,k1,k2⟩:=hk;cbv)|(refine ag (O.ar .add Za i 1,O.cat out [[.s 2 (O.cat [] (O.gs b i 0))]]) ?_ ?_ ?_;focus (cbv;done))|(refine ag (O.ar .add Za k 1,O.cat ou2 [[.s 1 (O.gs x k 0)]]) ?_ ?_ ?_;focus (cbv;done))|(refine ag (O.ar .add Za k 1,O.cat ou2 [[.s 1 (O.cat [] (O.gs x k 0))]]) ?_ ?_ ?_;focus (cbv;done))
 all_goals exact afh
abbrev Ia4:cZ:=eK (fun F f=>match f with|118=>cA F|119=>gA F|120=>cY F|121=>eS F|122=>eU F|123=>fK F|100=>cA F|101=>cY F|102=>eS F|103=>eU F|104=>fK F|_=>fun _=>none) (by
 intro f;dsimp only;split;exact gy;exact ni;exact oF;exact wY;exact xc;exact yT;exact zN;exact qJ;exact zQ;exact zS;exact zP;exact db)
def eR:EC:=fun F=>fun
 |[.agg hl_]=>hL hl_ fun a0 a1 a2 a3 a4 a5 a6 a7 a8 a9 aA aB aC aD aE aF aG aH aI aJ aK aL aM aN=>(fun _=>si a0 a1 a2 a4 a5 a6 a7 a8 a9 aA aB aD aL,[.agg (hpL a0 a1 a2 a3 a4 a5 a6 a7 a8 a9 aA aB aC aD aE aF aG aH aI aJ aK aL aM aN)])
 |_=>none
theorem wX:ec 39 eR:=by
 intro _ _ _ h hp;dsimp only[eR,F0,hL]at h;split at h;rotate_left;cases h;split at h<;>cases h
 rename_i a0 a1 a2 a3 a4 a5 a6 a7 a8 a9 aA aB aC aD aE aF aG aH aI aJ aK aL aM aN;have hr0:=hp.r0;have hc0:=hp.c0;have hl0:=aw (es:=a0);have hr1:=hp.r1;have hc1:=hp.c1;have hl1:=aw (es:=a1);have hr2:=hp.r2;have hc2:=hp.c2;have hl2:=aw (es:=a2);have hr4:=hp.r4;have hc4:=hp.c4;have hl4:=aw (es:=a4);have hr5:=hp.r5;have hc5:=hp.c5;have hl5:=aw (es:=a5);have hr6:=hp.r6;have hc6:=hp.c6;have hl6:=aw (es:=a6);have hr7:=hp.r7;have hc7:=hp.c7;have hl7:=aw (es:=a7);have hr8:=hp.r8;have hc8:=hp.c8;have hl8:=aw (es:=a8);have hr9:=hp.r9;have hc9:=hp.c9;have hl9:=aw (es:=a9);have hr10:=hp.r10;have hc10:=hp.c10;have hl10:=aw (es:=aA);have hr11:=hp.r11;have hc11:=hp.c11;have hl11:=aw (es:=aB);have hr13:=hp.r13;have hc13:=hp.c13;have hl13:=aw (es:=aD);have hr21:=hp.r21;have hc21:=hp.c21;have hl21:=aw (es:=aL);have hs5:=hr5.scal rfl;have hs6:=hr6.scal rfl;have hs7:=hr7.scal rfl;have hs8:=hr8.scal rfl;refine cb Ia4 Tryz.func39 ?_
 intro O r F hO hr hF;cbv
 repeat' first|apply Zb|(apply bG<;>intro hb<;>cbv)|(refine⟨[1,2,3,32,33,34],[1,2,3],Int×af,fun s_=>match s_ with|(i,out)=>[.reg 34 (.j i),.leaf 3 9 ⟨0,0,none,.own (.s 1 out)⟩],fun s_=>match s_ with|(i,out)=>0<=i/\i<=(a9.length:Int)/\out=a9.take i.toNat,fun s_=>match s_ with|(i,out)=>a9.length-i.toNat,⟨(0,[]),?_,?_⟩,?_⟩;rotate_left;(focus (cbv;done));intro s_ hi;obtain⟨i,out⟩:=s_;replace hi:0<=i/\i<=(a9.length:Int)/\out=a9.take i.toNat:=hi;obtain⟨i0,i1,i2⟩:=hi;cbv)|(refine ag (O.ar .add Za i 1,O.cat out [[.s 1 (O.gs a9 i 0)]]) ?_ ?_ ?_;focus (cbv;done))
 all_goals exact afj
theorem zT:ec 26 eR:=by
 intro _ _ _ h hp;dsimp only[eR,F0,hL]at h;split at h;rotate_left;cases h;split at h<;>cases h
 rename_i a0 a1 a2 a3 a4 a5 a6 a7 a8 a9 aA aB aC aD aE aF aG aH aI aJ aK aL aM aN;have hr0:=hp.r0;have hc0:=hp.c0;have hl0:=aw (es:=a0);have hr1:=hp.r1;have hc1:=hp.c1;have hl1:=aw (es:=a1);have hr2:=hp.r2;have hc2:=hp.c2;have hl2:=aw (es:=a2);have hr4:=hp.r4;have hc4:=hp.c4;have hl4:=aw (es:=a4);have hr5:=hp.r5;have hc5:=hp.c5;have hl5:=aw (es:=a5);have hr6:=hp.r6;have hc6:=hp.c6;have hl6:=aw (es:=a6);have hr7:=hp.r7;have hc7:=hp.c7;have hl7:=aw (es:=a7);have hr8:=hp.r8;have hc8:=hp.c8;have hl8:=aw (es:=a8);have hr9:=hp.r9;have hc9:=hp.c9;have hl9:=aw (es:=a9);have hr10:=hp.r10;have hc10:=hp.c10;have hl10:=aw (es:=aA);have hr11:=hp.r11;have hc11:=hp.c11;have hl11:=aw (es:=aB);have hr13:=hp.r13;have hc13:=hp.c13;have hl13:=aw (es:=aD);have hr21:=hp.r21;have hc21:=hp.c21;have hl21:=aw (es:=aL);have hs5:=hr5.scal rfl;have hs6:=hr6.scal rfl;have hs7:=hr7.scal rfl;have hs8:=hr8.scal rfl;refine cb Ia4 Tryz.func26 ?_
 intro O r F hO hr hF;cbv
 repeat' first|apply Zb|(apply bG<;>intro hb<;>cbv)|(refine⟨[1,2,3,4],[1,2,3],Int×af,fun s_=>match s_ with|(i,out)=>[.reg 4 (.j i),.reg 3 (.one (.vw 3 0 0 0 (O.ln out))),.leaf 3 0 ⟨0,0,none,.own (.s 1 out)⟩],fun s_=>match s_ with|(i,out)=>0<=i/\i<=(a9.length:Int)/\out=a9.take i.toNat,fun s_=>match s_ with|(i,out)=>a9.length-i.toNat,⟨(0,[]),?_,?_⟩,?_⟩;rotate_left;(focus (cbv;done));intro s_ hi;obtain⟨i,out⟩:=s_;replace hi:0<=i/\i<=(a9.length:Int)/\out=a9.take i.toNat:=hi;obtain⟨i0,i1,i2⟩:=hi;cbv)|(refine ag (O.ar .add Za i 1,O.cat out [[.s 1 (O.gs a9 i 0)]]) ?_ ?_ ?_;focus (cbv;done))
 all_goals exact afj
end Go.V