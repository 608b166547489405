/- Contracts. -/
import Derived.Test.YtbedjnlfdopeeaaGreatM0
import Derived.Test.YtbedjnlfdopeeaaGreatW3
set_option linter.all false
open Go
open And renaming intro->Zb
open IntKind renaming i64->Za
open List renaming length_nil->Zr,length_take->Zk,length_cons->Zn
namespace Go.V
open Go Go.Proofs
set_option maxRecDepth 1000000
set_option maxHeartbeats 8000000
abbrev KA1:da:=ez (fun F f=>match f with|41=>aj F|28=>aj F|_=>fun _=>none) (by
 intro f;dsimp only;split;exact bB;exact bE;exact de)
def eK:EC:=fun F=>fun
 |[.agg [.s 1 cs,.s 1 us]]=>some (fun _=>Rw [.sl [tI]] cs/\Rw [tB] us,[.k (F.framesOk cs us)])
 |_=>none
theorem wR:ec 313 eK:=by
 intro _ _ _ h hp;dsimp only[eK,F0]at h;split at h<;>cases h
 rename_i cs us;obtain⟨hc,hu⟩:=hp;have hcw:=hc.wf;have huw:=hu.wf;have hlen:=hc.1;unfold maxLen at hlen;refine cb KA1 Tryz.func313 ?_
 intro O r F hO hr hF;cbv
 repeat' first|apply Zb|(apply bF<;>intro hb<;>cbv)|(refine⟨[1,22,23,24],[1],Int,fun i=>[.reg 24 (.j i)],fun i=>0<=i/\i<=((cs.length:Nat):Int)/\upto (il cs us) i,fun i=>(cs.length)-i.toNat,⟨0,?_,?_⟩,?_⟩;rotate_left;(focus (cbv;done));intro i hi;replace hi:0<=i/\i<=((cs.length:Nat):Int)/\upto (il cs us) i:=hi;obtain⟨i0,i1,i2⟩:=hi;cbv)|(refine ag (O.ar .add Za i 1) ?_ ?_ ?_;focus (cbv;done))|(refine⟨[1,3,22,23,24,32,33,34],[1],Int,fun k=>[.reg 34 (.j k)],fun k=>0<=k/\k<=(((O.gs cs i 0).length:Nat):Int)/\upto (nN cs us i) k,fun k=>((O.gs cs i 0).length)-k.toNat,⟨0,?_,?_⟩,?_⟩;rotate_left;(focus (cbv;done));intro k hk;replace hk:0<=k/\k<=(((O.gs cs i 0).length:Nat):Int)/\upto (nN cs us i) k:=hk;obtain⟨k0,k1,k2⟩:=hk;cbv)|(refine ag (O.ar .add Za k 1) ?_ ?_ ?_;focus (cbv;done))
 all_goals exact agd
theorem xX:ec 329 eK:=by
 intro _ _ _ h hp;dsimp only[eK,F0]at h;split at h<;>cases h
 rename_i cs us;obtain⟨hc,hu⟩:=hp;have hlen:=hc.1;unfold maxLen at hlen;refine cb KA1 Tryz.func329 ?_
 intro O r F hO hr hF;cbv
 repeat' first|apply Zb|(apply bF<;>intro hb<;>cbv)|(refine⟨[1,3],[1],Int,fun i=>[.reg 3 (.j i)],fun i=>0<=i/\i<=((cs.length:Nat):Int)/\upto (il cs us) i,fun i=>(cs.length)-i.toNat,⟨0,?_,?_⟩,?_⟩;rotate_left;(focus (cbv;done));intro i hi;replace hi:0<=i/\i<=((cs.length:Nat):Int)/\upto (il cs us) i:=hi;obtain⟨i0,i1,i2⟩:=hi;cbv)|(refine ag (O.ar .add Za i 1) ?_ ?_ ?_;focus (cbv;done))|(refine⟨[1,3,4],[1],Int,fun k=>[.reg 4 (.j k)],fun k=>0<=k/\k<=((16:Nat):Int)/\upto (nN cs us i) k,fun k=>(16)-k.toNat,⟨0,?_,?_⟩,?_⟩;rotate_left;(focus (cbv;done));intro k hk;replace hk:0<=k/\k<=((16:Nat):Int)/\upto (nN cs us i) k:=hk;obtain⟨k0,k1,k2⟩:=hk;cbv)|(refine ag (O.ar .add Za k 1) ?_ ?_ ?_;focus (cbv;done))
 all_goals exact agd
def ft:EC:=fun F=>fun
 |[.agg [.s 2 es],.one (.v (.int Za n))]=>some (fun _=>Rw [tI,tI] es,[.k (F.tableOk es n)])
 |_=>none
theorem zb:ec 314 ft:=by
 intro _ _ _ h hp;dsimp only[ft,F0]at h;split at h<;>cases h
 rename_i es n;have hlen:=hp.1;unfold maxLen at hlen;refine cb KA1 Tryz.func314 ?_
 intro O r F hO hr hF;cbv
 repeat' first|apply Zb|(apply bF<;>intro hb<;>cbv)|(refine⟨[1,2,8,9,10],[2],Int,fun i=>[.reg 10 (.j i)],fun i=>0<=i/\i<=((es.length:Nat):Int)/\upto (qO es n) i,fun i=>(es.length)-i.toNat,⟨0,?_,?_⟩,?_⟩;rotate_left;(focus (cbv;done));intro i hi;replace hi:0<=i/\i<=((es.length:Nat):Int)/\upto (qO es n) i:=hi;obtain⟨i0,i1,i2⟩:=hi;cbv)|(refine ag (O.ar .add Za i 1) ?_ ?_ ?_;focus (cbv;done))
 all_goals exact agp
theorem zU:ec 330 ft:=by
 intro _ _ _ h hp;dsimp only[ft,F0]at h;split at h<;>cases h
 rename_i es n;have hlen:=hp.1;unfold maxLen at hlen;refine cb KA1 Tryz.func330 ?_
 intro O r F hO hr hF;cbv
 repeat' first|apply Zb|(apply bF<;>intro hb<;>cbv)|(refine⟨[1,2,5],[2],Int,fun i=>[.reg 5 (.j i)],fun i=>0<=i/\i<=((es.length:Nat):Int)/\upto (qO es n) i,fun i=>(es.length)-i.toNat,⟨0,?_,?_⟩,?_⟩;rotate_left;(focus (cbv;done));intro i hi;replace hi:0<=i/\i<=((es.length:Nat):Int)/\upto (qO es n) i:=hi;obtain⟨i0,i1,i2⟩:=hi;cbv)|(refine ag (O.ar .add Za i 1) ?_ ?_ ?_;focus (cbv;done))
 all_goals exact agp
def eT:EC:=fun F=>fun
 |[.one (.s 1 es)]=>some (fun _=>Rw [tI] es/\es.length<=1099511627776,[.one (.s 1 es)])
 |_=>none
theorem hZ:ec 222 eT:=by
 intro _ _ _ h hp;dsimp only[eT,F0]at h;split at h<;>cases h
 rename_i es;obtain⟨hw,hl⟩:=hp;have hs:=hw.scal rfl;refine cb nB Tryz.func222 ?_
 intro O r F hO hr hF;cbv
 repeat' first|apply Zb|(apply bF<;>intro hb<;>cbv)
 all_goals(subst hO hr hF;(try simp only[nc]at*);(try simp only[ah,SS,sa,az]at*))
 all_goals first|exact hs|trivial|(simp only[Zr];omega)|trace_state
abbrev KD4:da:=ez (fun F f=>match f with|313=>eK F|314=>ft F|315=>cM F|_=>fun _=>none) (by
 intro f;dsimp only;split;exact wR;exact zb;exact lW;exact de)
def eb:EC:=fun F=>fun
 |[.agg [.s 1 cs,.s 1 us,.s 2 es]]=>some (fun _=>Rw [.sl [tI]] cs/\Rw [tB] us/\Rw [tI,tI] es,[.k (F.machOk cs us es)])
 |_=>none
theorem uW:ec 224 eb:=by
 intro _ _ _ h hp;dsimp only[eb,F0]at h;split at h<;>cases h
 rename_i cs us es;obtain⟨hc,hu,ht⟩:=hp;have hm:=hu.1;unfold maxLen at hm;refine cb KD4 Tryz.func224 ?_
 intro O r F hO hr hF;cbv
 repeat' first|apply Zb|(apply bF<;>intro hb<;>cbv)|(refine⟨[1,21,22,23],[1],Int,fun i=>[.reg 23 (.j i)],fun i=>0<=i/\i<=((us.length:Nat):Int)/\upto (oy us es) i,fun i=>(us.length)-i.toNat,⟨0,?_,?_⟩,?_⟩;rotate_left;(focus (cbv;done));intro i hi;replace hi:0<=i/\i<=((us.length:Nat):Int)/\upto (oy us es) i:=hi;obtain⟨i0,i1,i2⟩:=hi;cbv)|(refine ag (O.ar .add Za i 1) ?_ ?_ ?_;focus (cbv;done))
 all_goals(subst hO hr hF;(try simp only[nc]at*);(try simp only[ah,SS,sa,az]at*);(try simp only[Jy]at*);(try rw[db (by omega) (by omega)]);(try(have hfl:=Ax (cs:=cs) (us:=us) (by assumption)));(try(have htl:=Bo (es:=es) (n:=(us.length:Int)) (by assumption)));(try(have htl:=Bo (es:=es) (n:=(cs.length:Int)) (by assumption))))
 all_goals first|omega|exact gj|exact bK|exact⟨hc,hu⟩|exact⟨ht,by omega⟩|exact ai (JC (.inl (by assumption))).symm|exact ai (abw (by assumption) (by assumption)).symm|exact ai (M1 i0 (by omega) (by assumption)).symm|exact aZ i2 (M0 (by assumption))|exact ai (H2 (by assumption) (by assumption) i2 (by omega)).symm|trace_state
abbrev KD5:da:=ez (fun F f=>match f with|329=>eK F|330=>ft F|331=>cM F|_=>fun _=>none) (by
 intro f;dsimp only;split;exact xX;exact zU;exact mh;exact de)
theorem vq:ec 257 eb:=by
 intro _ _ _ h hp;dsimp only[eb,F0]at h;split at h<;>cases h
 rename_i cs us es;obtain⟨hc,hu,ht⟩:=hp;have hm:=hu.1;unfold maxLen at hm;refine cb KD5 Tryz.func257 ?_
 intro O r F hO hr hF;cbv
 repeat' first|apply Zb|(apply bF<;>intro hb<;>cbv)|(refine⟨[1,3],[1],Int,fun i=>[.reg 3 (.j i)],fun i=>0<=i/\i<=((us.length:Nat):Int)/\upto (oy us es) i,fun i=>(us.length)-i.toNat,⟨0,?_,?_⟩,?_⟩;rotate_left;(focus (cbv;done));intro i hi;replace hi:0<=i/\i<=((us.length:Nat):Int)/\upto (oy us es) i:=hi;obtain⟨i0,i1,i2⟩:=hi;cbv)|(refine ag (O.ar .add Za i 1) ?_ ?_ ?_;focus (cbv;done))
 all_goals(subst hO hr hF;(try simp only[nc]at*);(try simp only[ah,SS,sa,az]at*);(try simp only[Jy]at*);(try rw[db (by omega) (by omega)]);(try(have hfl:=Ax (cs:=cs) (us:=us) (by assumption)));(try(have htl:=Bo (es:=es) (n:=(us.length:Int)) (by assumption)));(try(have htl:=Bo (es:=es) (n:=(cs.length:Int)) (by assumption))))
 all_goals first|omega|exact gj|(show aP _ _=true;kernel_rfl)|exact bK|exact⟨hc,hu⟩|exact⟨ht,by omega⟩|exact ai (JC (.inl (by assumption))).symm|exact ai (JC (.inr (by assumption))).symm|exact ai (M1 i0 (by omega) (by assumption)).symm|exact aZ i2 (M0 (by assumption))|(refine ai (H2 (by assumption) ?_ i2 (by omega)).symm;rw[hfl.1];assumption)|trace_state
abbrev N3:da:=ez (fun F f=>match f with|41=>aj F|28=>aj F|224=>eb F|257=>eb F|_=>fun _=>none) (by
 intro f;dsimp only;split;exact bB;exact bE;exact uW;exact vq;exact de)
def dr:EC:=fun F=>fun
 |[.agg [.s 1 cs,.s 1 us,.s 2 es,.v (.int Za c),.s 1 rs]]=>some (fun _=>Rw [.sl [tI]] cs/\Rw [tB] us/\Rw [tI,tI] es/\Rw [tI] rs,[.k (F.kerOk cs us es c rs)])
 |_=>none
theorem pS:ec 124 dr:=by
 intro _ _ _ h hp;dsimp only[dr,F0]at h;split at h<;>cases h
 rename_i cs us es c rs;obtain⟨hc,hu,ht,hr⟩:=hp;have hm:=hr.1;unfold maxLen at hm;refine cb N3 Tryz.func124 ?_
 intro O r F hO hr hF;cbv
 repeat' first|apply Zb|(apply bF<;>intro hb<;>cbv)|(refine⟨[1,6,7,8],[1],Int,fun i=>[.reg 8 (.j i)],fun i=>0<=i/\i<=((rs.length:Nat):Int)/\upto (Gs rs) i,fun i=>(rs.length)-i.toNat,⟨0,?_,?_⟩,?_⟩;rotate_left;(focus (cbv;done));intro i hi;replace hi:0<=i/\i<=((rs.length:Nat):Int)/\upto (Gs rs) i:=hi;obtain⟨i0,i1,i2⟩:=hi;cbv)|(refine ag (O.ar .add Za i 1) ?_ ?_ ?_;focus (cbv;done))
 all_goals(subst hO hr hF;(try simp only[nc]at*);(try simp only[ah,SS,sa,az]at*);(try rw[db (by omega) (by omega)]))
 all_goals first
  | (show(_:List DV)=_
     first
      |exact ai (NO i0 (by assumption) (by assumption)).symm
      |exact ai (Jq (by assumption)).symm
      |exact ai (PR (Qf (by omega))).symm
      |(refine ai ?_;unfold kerOk;rw[show inR c 0 100000=true from by assumption,Qg i2 (by omega) (by omega)];simp)
      |done)
  |omega
  |exact gj
  |exact bK
  |exact aZ i2 (NN (by omega))
  |exact⟨hc,hu,ht⟩
  |trace_state
theorem pY:ec 164 dr:=by
 intro _ _ _ h hp;dsimp only[dr,F0]at h;split at h<;>cases h
 rename_i cs us es c rs;obtain⟨hc,hu,ht,hr⟩:=hp;have hm:=hr.1;unfold maxLen at hm;refine cb N3 Tryz.func164 ?_
 intro O r F hO hr hF;cbv
 repeat' first|apply Zb|(apply bF<;>intro hb<;>cbv)|(refine⟨[1,3],[1],Int,fun i=>[.reg 3 (.j i)],fun i=>0<=i/\i<=((rs.length:Nat):Int)/\upto (Gs rs) i,fun i=>(rs.length)-i.toNat,⟨0,?_,?_⟩,?_⟩;rotate_left;(focus (cbv;done));intro i hi;replace hi:0<=i/\i<=((rs.length:Nat):Int)/\upto (Gs rs) i:=hi;obtain⟨i0,i1,i2⟩:=hi;cbv)|(refine ag (O.ar .add Za i 1) ?_ ?_ ?_;focus (cbv;done))
 all_goals(subst hO hr hF;(try simp only[nc]at*);(try simp only[ah,SS,sa,az]at*);(try rw[db (by omega) (by omega)]))
 all_goals first
  | (show(_:List DV)=_
     first
      |exact ai (NO i0 (by assumption) (by assumption)).symm
      |exact ai (PQ (by assumption)).symm
      |exact ai (Jq (by assumption)).symm
      |(refine ai ?_;unfold kerOk ra;rw[show machOk cs us es=true from by assumption,show inR c 0 100000=true from by assumption,bN i2 (by omega)];refine gW ?_;simp only[SS,Bool.true_and,VV];omega)
      |done)
  |omega
  |exact gj
  |exact bK
  |exact aZ i2 (NN (by omega))
  |exact⟨hc,hu,ht⟩
  |trace_state
abbrev QU:da:=ez (fun F f=>match f with|222=>eT F|_=>fun _=>none) (by
 intro f;dsimp only;split;exact hZ;exact de)
def ed:EC:=fun F=>fun
 |[.agg [.s 2 es]]=>some (fun _=>Rw [tI,tI] es/\es.length<=1099511627776,[.agg [.s 2 es]])
 |_=>none
theorem uX:ec 311 ed:=by
 intro _ _ _ h hp;dsimp only[ed,F0]at h;split at h<;>cases h
 rename_i es;obtain⟨hw,hl⟩:=hp;have hs:=hw.scal rfl;refine cb QU Tryz.func311 ?_
 exact TL
theorem zW:ec 304 ed:=by
 intro _ _ _ h hp;dsimp only[ed,F0]at h;split at h<;>cases h
 rename_i es;obtain⟨hw,hl⟩:=hp;have hs:=hw.scal rfl;refine cb QU Tryz.func304 ?_
 exact TL
def gq:EC:=fun F=>fun
 |[.one (.s 2 es)]=>some (fun _=>Rw [tI,tI] es/\es.length<=1099511627776,[.one (.s 2 es)])
 |_=>none
theorem nu:ec 119 gq:=by
 intro _ _ _ h hp;dsimp only[gq,F0]at h;split at h<;>cases h
 rename_i es;obtain⟨hw,hl⟩:=hp;have hs:=hw.scal rfl;refine cb QU Tryz.func119 ?_
 exact TL
def dx:EC:=fun F=>fun
 |[.agg [.v (.int Za r),.s 3 qs]]=>some (fun _=>Rw [tI,tI,tI] qs/\qs.length<=1099511627776,[.agg [.i r,.s 3 qs]])
 |_=>none
theorem pW:ec 122 dx:=by
 intro _ _ _ h hp;dsimp only[dx,F0]at h;split at h<;>cases h
 rename_i r qs;obtain⟨hw,hl⟩:=hp;have hs:=hw.scal rfl;refine cb QU Tryz.func122 ?_
 exact TL
theorem qH:ec 103 dx:=by
 intro _ _ _ h hp;dsimp only[dx,F0]at h;split at h<;>cases h
 rename_i r qs;obtain⟨hw,hl⟩:=hp;have hs:=hw.scal rfl;refine cb QU Tryz.func103 ?_
 exact TL
def Tryz.laysC15_ren:Go.Shelf.Ren:=⟨fun|15=>312|n=>n,fun|22=>31|3=>3|4=>4|n=>n,fun|n=>n⟩
theorem Tryz.laysC15:Lays2.n15 Tryz.prog Tryz.laysC15_ren:=⟨by kernel_rfl,Tryz.func312.trans (congrArg some (by kernel_rfl)),Tryz.underlying3,Tryz.isAgg3,Tryz.sizeOf3,Tryz.zeroValue3,Tryz.underlying4,Tryz.isAgg4,Tryz.sizeOf4,Tryz.zeroValue4,Tryz.underlying31,Tryz.isAgg31,Tryz.sizeOf31,Tryz.zeroValue31,by kernel_rfl⟩
def fL:EC:=fun F=>fun
 |[.one (.s 1 l)]=>some (fun _=>Rw [tI] l/\l.length<=1099511627776,[.one (.s 1 l)])
 |_=>none
theorem pa:ec 312 fL:=by
 intro _ _ _ h hp;dsimp only[fL,F0]at h;split at h<;>cases h
 rename_i l;exact Ks (Any.slices_Clone_int_nil Tryz.laysC15) (Any.slices_Clone_int_zero Tryz.laysC15) (Any.slices_Clone_int Tryz.laysC15) l hp
def fG:EC:=fun F=>fun
 |[.agg [.v (.int Za k),.v (.int Za m),.s 1 cs,.v (.int Za p),.v (.int Za n)]]=>some (fun _=>Rw [tI] cs/\cs.length<=1099511627776,[.agg [.i k,.i m,.s 1 cs,.i p,.i n]])
 |_=>none
theorem Ab:ec 104 fG:=by
 intro _ _ _ h hp;dsimp only[fG,F0]at h;split at h<;>cases h
 rename_i k m cs p n;obtain⟨hw,hl⟩:=hp;have hs:=hw.scal rfl;refine cb QU Tryz.func104 ?_
 exact TL
def dP:EC:=fun F=>fun
 |[.agg [.s 1 cs,.s 1 us]]=>some (fun _=>Rw [.sl [tI]] cs/\Rw [tB] us/\ak cs<=1099511627776/\ak us<=1099511627776,[.agg [.s 1 cs,.s 1 us]])
 |_=>none
theorem tp:ec 310 dP:=by
 intro _ _ _ h hp;dsimp only[dP,F0]at h;split at h<;>cases h
 rename_i cs us;obtain⟨hc,hu,hn,hm⟩:=hp;have hs:=hu.scal rfl;have hl1:=au (es:=cs);have hl2:=au (es:=us);refine cb QU Tryz.func310 ?_
 intro O r F hO hr hF;cbv
 repeat' first|apply Zb|(apply bF<;>intro hb<;>cbv)|(refine⟨[2,3,12,13,14],[2,3],Int×aa,fun s_=>match s_ with|(i,out)=>[.reg 14 (.j i),.leaf 3 0 ⟨0,0,none,.own (.s 1 out)⟩],fun s_=>match s_ with|(i,out)=>0<=i/\i<=(cs.length:Int)/\out=cs.take i.toNat,fun s_=>match s_ with|(i,out)=>cs.length-i.toNat,⟨(0,[]),?_,?_⟩,?_⟩;rotate_left;(focus (cbv;done));intro s_ hi;obtain⟨i,out⟩:=s_;replace hi:0<=i/\i<=(cs.length:Int)/\out=cs.take i.toNat:=hi;obtain⟨i0,i1,i2⟩:=hi;cbv)|(refine ag (O.ar .add Za i 1,O.cat out [[.s 1 (O.gs cs i 0)]]) ?_ ?_ ?_;focus (cbv;done))
 all_goals(subst hO hr hF;(try simp only[nc]at*);(try simp only[ah,SS,sa,az]at*);(try rw[db (by omega) (by omega)]);(try(have hol:out.length=i.toNat:=(by rw[i2,Zk];omega)));(try(have hsc:=rP hc i0 (by assumption);have hsl:=au (es:=aw cs i 0))))
 all_goals first|exact hs|omega|exact gj|(show aP _ _=true;kernel_rfl)|exact⟨by(first|assumption|exact Rw.sub (by first|assumption|exact Rw.sub (by assumption) (by omega) rfl) (by omega) rfl),by omega⟩|(simp only[Zr,Zn];omega)|(rw[i2];exact(jr hc i0 (by assumption)).symm)|(rw[i2,jq (by omega)];rfl)|exact⟨trivial,trivial⟩|trivial|exact rfl|trace_state
theorem zV:ec 303 dP:=by
 intro _ _ _ h hp;dsimp only[dP,F0]at h;split at h<;>cases h
 rename_i cs us;obtain⟨hc,hu,hn,hm⟩:=hp;have hs:=hu.scal rfl;have hl1:=au (es:=cs);have hl2:=au (es:=us);refine cb QU Tryz.func303 ?_
 intro O r F hO hr hF;cbv
 repeat' first|apply Zb|(apply bF<;>intro hb<;>cbv)|(refine⟨[1,2,3,4],[1,2,3],Int×aa,fun s_=>match s_ with|(i,out)=>[.reg 4 (.j i),.leaf 3 0 ⟨0,0,none,.own (.s 1 out)⟩],fun s_=>match s_ with|(i,out)=>0<=i/\i<=(cs.length:Int)/\out=cs.take i.toNat,fun s_=>match s_ with|(i,out)=>cs.length-i.toNat,⟨(0,[]),?_,?_⟩,?_⟩;rotate_left;(focus (cbv;done));intro s_ hi;obtain⟨i,out⟩:=s_;replace hi:0<=i/\i<=(cs.length:Int)/\out=cs.take i.toNat:=hi;obtain⟨i0,i1,i2⟩:=hi;cbv)|(refine ag (O.ar .add Za i 1,O.cat out [[.s 1 (O.gs cs i 0)]]) ?_ ?_ ?_;focus (cbv;done))|(refine ag (O.ar .add Za i 1,O.cat out [[.s 1 (O.cat [] (O.gs cs i 0))]]) ?_ ?_ ?_;focus (cbv;done))
 all_goals(subst hO hr hF;(try simp only[nc]at*);(try simp only[ah,SS,sa,az]at*);(try rw[db (by omega) (by omega)]);(try(have hol:out.length=i.toNat:=(by rw[i2,Zk];omega)));(try(have hsc:=rP hc i0 (by assumption);have hsl:=au (es:=aw cs i 0))))
 all_goals first|exact hs|exact Rw.scal (fs:=[tI]) (by(first|assumption|exact Rw.sub (by first|assumption|exact Rw.sub (by assumption) (by omega) rfl) (by omega) rfl)) rfl|omega|exact gj|(show aP _ _=true;kernel_rfl)|exact⟨by(first|assumption|exact Rw.sub (by first|assumption|exact Rw.sub (by assumption) (by omega) rfl) (by omega) rfl),by omega⟩|(simp only[Zr,Zn];omega)|(rw[i2];exact(jr hc i0 (by assumption)).symm)|(rw[i2,List.nil_append];exact(jr hc i0 (by assumption)).symm)|(rw[i2,jq (by omega)];rfl)|exact⟨trivial,trivial⟩|trivial|exact rfl|trace_state
abbrev Ia1:da:=ez (fun F f=>match f with|310=>dP F|311=>ed F|303=>dP F|304=>ed F|312=>fL F|_=>fun _=>none) (by
 intro f;dsimp only;split;exact tp;exact uX;exact zV;exact zW;exact pa;exact de)
def dD:EC:=fun F=>fun
 |[.agg [.s 1 cs,.s 1 us,.s 2 es]]=>some (fun _=>Rw [.sl [tI]] cs/\Rw [tB] us/\Rw [tI,tI] es/\ak cs<=1099511627776/\ak us<=1099511627776/\ak es<=1099511627776,[.agg [.s 1 cs,.s 1 us,.s 2 es]])
 |_=>none
theorem sE:ec 221 dD:=by
 intro _ _ _ h hp;dsimp only[dD,F0]at h;split at h<;>cases h
 rename_i cs us es;obtain⟨hc,hu,he,hn,hm,hk⟩:=hp;have hl:=au (es:=es);refine cb Ia1 Tryz.func221 ?_
 exact agz
theorem zX:ec 212 dD:=by
 intro _ _ _ h hp;dsimp only[dD,F0]at h;split at h<;>cases h
 rename_i cs us es;obtain⟨hc,hu,he,hn,hm,hk⟩:=hp;have hl:=au (es:=es);refine cb Ia1 Tryz.func212 ?_
 exact agz
def kI:EC:=fun F=>fun
 |[.agg [.v (.int Za k),.v (.int Za m),.s 1 cs]]=>some (fun _=>Rw [tI] cs/\cs.length<=1099511627776,[.agg [.i k,.i m,.s 1 cs]])
 |_=>none
theorem xg:ec 223 kI:=by
 intro _ _ _ h hp;dsimp only[kI,F0]at h;split at h<;>cases h
 rename_i k m cs;obtain⟨hw,hl⟩:=hp;have hs:=hw.scal rfl;refine cb Ia1 Tryz.func223 ?_
 exact TL
abbrev Ia2:da:=ez (fun F f=>match f with|221=>dD F|212=>dD F|222=>eT F|223=>kI F|_=>fun _=>none) (by
 intro f;dsimp only;split;exact sE;exact zX;exact hZ;exact xg;exact de)
def dj:EC:=fun F=>fun
 |[.agg [.s 1 cs,.s 1 us,.s 2 es,.v (.int Za c),.s 1 rs]]=>some (fun _=>Rw [.sl [tI]] cs/\Rw [tB] us/\Rw [tI,tI] es/\Rw [tI] rs/\ak cs<=1099511627776/\ak us<=1099511627776/\ak es<=1099511627776/\ak rs<=1099511627776,[.agg [.s 1 cs,.s 1 us,.s 2 es,.i c,.s 1 rs]])
 |_=>none
theorem np:ec 118 dj:=by
 intro _ _ _ h hp;dsimp only[dj,F0]at h;split at h<;>cases h
 rename_i cs us es c rs;obtain⟨hc,hu,he,hr,hn,hm,hk,hl⟩:=hp;have l1:=au (es:=rs);have hs:=hr.scal rfl;refine cb Ia2 Tryz.func118 ?_
 exact agv
theorem zY:ec 100 dj:=by
 intro _ _ _ h hp;dsimp only[dj,F0]at h;split at h<;>cases h
 rename_i cs us es c rs;obtain⟨hc,hu,he,hr,hn,hm,hk,hl⟩:=hp;have l1:=au (es:=rs);have hs:=hr.scal rfl;refine cb Ia2 Tryz.func100 ?_
 exact agv
theorem ze:ec 123 fG:=by
 intro _ _ _ h hp;dsimp only[fG,F0]at h;split at h<;>cases h
 rename_i k m cs p n;obtain⟨hw,hl⟩:=hp;have hs:=hw.scal rfl;refine cb Ia2 Tryz.func123 ?_
 exact TL
abbrev Ia3:da:=ez (fun F f=>match f with|222=>eT F|_=>fun _=>none) (by
 intro f;dsimp only;split;exact hZ;exact de)
def cW:EC:=fun F=>fun
 |[.agg [.s 1 ls]]=>some (fun _=>Rw [.sl [tI]] ls/\ak ls<=1099511627776,[.agg [.s 1 ls]])
 |_=>none
theorem oK:ec 120 cW:=by
 intro _ _ _ h hp;dsimp only[cW,F0]at h;split at h<;>cases h
 rename_i ls;obtain⟨hc,hn⟩:=hp;have hl1:=au (es:=ls);refine cb Ia3 Tryz.func120 ?_
 intro O r F hO hr hF;cbv
 repeat' first|apply Zb|(apply bF<;>intro hb<;>cbv)|(refine⟨[2,3,8,9,10],[2,3],Int×aa,fun s_=>match s_ with|(i,out)=>[.reg 10 (.j i),.leaf 3 0 ⟨0,0,none,.own (.s 1 out)⟩],fun s_=>match s_ with|(i,out)=>0<=i/\i<=(ls.length:Int)/\out=ls.take i.toNat,fun s_=>match s_ with|(i,out)=>ls.length-i.toNat,⟨(0,[]),?_,?_⟩,?_⟩;rotate_left;(focus (cbv;done));intro s_ hi;obtain⟨i,out⟩:=s_;replace hi:0<=i/\i<=(ls.length:Int)/\out=ls.take i.toNat:=hi;obtain⟨i0,i1,i2⟩:=hi;cbv)|(refine ag (O.ar .add Za i 1,O.cat out [[.s 1 (O.gs ls i 0)]]) ?_ ?_ ?_;focus (cbv;done))|(refine ag (O.ar .add Za i 1,O.cat out [[.s 1 (O.cat [] (O.gs ls i 0))]]) ?_ ?_ ?_;focus (cbv;done))
 all_goals exact af6
theorem qF:ec 101 cW:=by
 intro _ _ _ h hp;dsimp only[cW,F0]at h;split at h<;>cases h
 rename_i ls;obtain⟨hc,hn⟩:=hp;have hl1:=au (es:=ls);refine cb Ia3 Tryz.func101 ?_
 intro O r F hO hr hF;cbv
 repeat' first|apply Zb|(apply bF<;>intro hb<;>cbv)|(refine⟨[1,2,3,4],[1,2,3],Int×aa,fun s_=>match s_ with|(i,out)=>[.reg 4 (.j i),.leaf 3 0 ⟨0,0,none,.own (.s 1 out)⟩],fun s_=>match s_ with|(i,out)=>0<=i/\i<=(ls.length:Int)/\out=ls.take i.toNat,fun s_=>match s_ with|(i,out)=>ls.length-i.toNat,⟨(0,[]),?_,?_⟩,?_⟩;rotate_left;(focus (cbv;done));intro s_ hi;obtain⟨i,out⟩:=s_;replace hi:0<=i/\i<=(ls.length:Int)/\out=ls.take i.toNat:=hi;obtain⟨i0,i1,i2⟩:=hi;cbv)|(refine ag (O.ar .add Za i 1,O.cat out [[.s 1 (O.gs ls i 0)]]) ?_ ?_ ?_;focus (cbv;done))|(refine ag (O.ar .add Za i 1,O.cat out [[.s 1 (O.cat [] (O.gs ls i 0))]]) ?_ ?_ ?_;focus (cbv;done))
 all_goals exact af6
def du:EC:=fun F=>fun
 |[.agg [.s 1 b,.s 1 x]]=>some (fun _=>Rw [.sl [tI,tI]] b/\Rw [.sl [tI]] x/\ak b<=1099511627776/\ak x<=1099511627776,[.agg [.s 1 b,.s 1 x]])
 |_=>none
theorem pV:ec 121 du:=by
 intro _ _ _ h hp;dsimp only[du,F0]at h;split at h<;>cases h
 rename_i b x;obtain⟨wb,wx,nb,nx⟩:=hp;have hl1:=au (es:=b);have hl2:=au (es:=x);refine cb Ia3 Tryz.func121 ?_
 intro O r F hO hr hF;cbv
 repeat' first|apply Zb|(apply bF<;>intro hb<;>cbv)|(refine⟨[1,2,3,10,11,12],[1,2,3],Int×aa,fun s_=>match s_ with|(i,out)=>[.reg 12 (.j i),.leaf 3 0 ⟨0,0,none,.own (.s 1 out)⟩],fun s_=>match s_ with|(i,out)=>0<=i/\i<=(b.length:Int)/\out=b.take i.toNat,fun s_=>match s_ with|(i,out)=>b.length-i.toNat,⟨(0,[]),?_,?_⟩,?_⟩;rotate_left;(focus (cbv;done));intro s_ hi;obtain⟨i,out⟩:=s_;replace hi:0<=i/\i<=(b.length:Int)/\out=b.take i.toNat:=hi;obtain⟨i0,i1,i2⟩:=hi;cbv)|(refine⟨[2,3,26,27,28],[2,3],Int×aa,fun s_=>match s_ with|(k,ou2)=>[.reg 28 (.j k),.leaf 3 1 ⟨0,0,none,.own (.s 1 ou2)⟩],fun s_=>match s_ with|(k,ou2)=>0<=k/\k<=(x.length:Int)/\ou2=x.take k.toNat,fun s_=>match s_ with|(k,ou2)=>x.length-k.toNat,⟨(0,[]),?_,?_⟩,?_⟩;rotate_left;(focus (cbv;done));intro s_ hk;obtain⟨k,ou2⟩:=s_;replace hk:0<=k/\k<=(x.length:Int)/\ou2=x.take k.toNat:=hk;obtain⟨k0,k1,k2⟩:=hk;cbv)|(refine ag (O.ar .add Za i 1,O.cat out [[.s 2 (O.cat [] (O.gs b i 0))]]) ?_ ?_ ?_;focus (cbv;done))|(refine ag (O.ar .add Za k 1,O.cat ou2 [[.s 1 (O.gs x k 0)]]) ?_ ?_ ?_;focus (cbv;done))|(refine ag (O.ar .add Za k 1,O.cat ou2 [[.s 1 (O.cat [] (O.gs x k 0))]]) ?_ ?_ ?_;focus (cbv;done))
 all_goals exact zq9
theorem qG:ec 102 du:=by
 intro _ _ _ h hp;dsimp only[du,F0]at h;split at h<;>cases h
 rename_i b x;obtain⟨wb,wx,nb,nx⟩:=hp;have hl1:=au (es:=b);have hl2:=au (es:=x);refine cb Ia3 Tryz.func102 ?_
 intro O r F hO hr hF;cbv
 repeat' first|apply Zb|(apply bF<;>intro hb<;>cbv)|(refine⟨[1,2,3,4],[1,2,3],Int×aa,fun s_=>match s_ with|(i,out)=>[.reg 4 (.j i),.leaf 3 0 ⟨0,0,none,.own (.s 1 out)⟩],fun s_=>match s_ with|(i,out)=>0<=i/\i<=(b.length:Int)/\out=b.take i.toNat,fun s_=>match s_ with|(i,out)=>b.length-i.toNat,⟨(0,[]),?_,?_⟩,?_⟩;rotate_left;(focus (cbv;done));intro s_ hi;obtain⟨i,out⟩:=s_;replace hi:0<=i/\i<=(b.length:Int)/\out=b.take i.toNat:=hi;obtain⟨i0,i1,i2⟩:=hi;cbv)|(refine⟨[1,2,3,5],[1,2,3],Int×aa,fun s_=>match s_ with|(k,ou2)=>[.reg 5 (.j k),.leaf 3 1 ⟨0,0,none,.own (.s 1 ou2)⟩],fun s_=>match s_ with|(k,ou2)=>0<=k/\k<=(x.length:Int)/\ou2=x.take k.toNat,fun s_=>match s_ with|(k,ou2)=>x.length-k.toNat,⟨(0,[]),?_,?_⟩,?_⟩;rotate_left;(focus (cbv;done));intro s_ hk;obtain⟨k,ou2⟩:=s_;replace hk:0<=k/\k<=(x.length:Int)/\ou2=x.take k.toNat:=hk;obtain⟨k0,k1,k2⟩:=hk;cbv)|(refine ag (O.ar .add Za i 1,O.cat out [[.s 2 (O.cat [] (O.gs b i 0))]]) ?_ ?_ ?_;focus (cbv;done))|(refine ag (O.ar .add Za k 1,O.cat ou2 [[.s 1 (O.gs x k 0)]]) ?_ ?_ ?_;focus (cbv;done))|(refine ag (O.ar .add Za k 1,O.cat ou2 [[.s 1 (O.cat [] (O.gs x k 0))]]) ?_ ?_ ?_;focus (cbv;done))
 all_goals exact zq9
abbrev Ia4:da:=ez (fun F f=>match f with|118=>dj F|119=>gq F|120=>cW F|121=>du F|122=>dx F|123=>fG F|100=>dj F|101=>cW F|102=>du F|103=>dx F|104=>fG F|_=>fun _=>none) (by
 intro f;dsimp only;split;exact np;exact nu;exact oK;exact pV;exact pW;exact ze;exact zY;exact qF;exact qG;exact qH;exact Ab;exact de)
def eS:EC:=fun F=>fun
 |[.agg hl_]=>hL hl_ fun a0 a1 a2 a3 a4 a5 a6 a7 a8 a9 aA aB aC aD aE aF aG aH aI aJ aK aL aM aN=>(fun _=>o6 a0 a1 a2 a4 a5 a6 a7 a8 a9 aA aB aD aL,[.agg (hpL a0 a1 a2 a3 a4 a5 a6 a7 a8 a9 aA aB aC aD aE aF aG aH aI aJ aK aL aM aN)])
 |_=>none
theorem xf:ec 39 eS:=by
 intro _ _ _ h hp;dsimp only[eS,F0,hL]at h;split at h;rotate_left;cases h;split at h<;>cases h
 rename_i a0 a1 a2 a3 a4 a5 a6 a7 a8 a9 aA aB aC aD aE aF aG aH aI aJ aK aL aM aN;have hr0:=hp.r0;have hc0:=hp.c0;have hl0:=au (es:=a0);have hr1:=hp.r1;have hc1:=hp.c1;have hl1:=au (es:=a1);have hr2:=hp.r2;have hc2:=hp.c2;have hl2:=au (es:=a2);have hr4:=hp.r4;have hc4:=hp.c4;have hl4:=au (es:=a4);have hr5:=hp.r5;have hc5:=hp.c5;have hl5:=au (es:=a5);have hr6:=hp.r6;have hc6:=hp.c6;have hl6:=au (es:=a6);have hr7:=hp.r7;have hc7:=hp.c7;have hl7:=au (es:=a7);have hr8:=hp.r8;have hc8:=hp.c8;have hl8:=au (es:=a8);have hr9:=hp.r9;have hc9:=hp.c9;have hl9:=au (es:=a9);have hr10:=hp.r10;have hc10:=hp.c10;have hl10:=au (es:=aA);have hr11:=hp.r11;have hc11:=hp.c11;have hl11:=au (es:=aB);have hr13:=hp.r13;have hc13:=hp.c13;have hl13:=au (es:=aD);have hr21:=hp.r21;have hc21:=hp.c21;have hl21:=au (es:=aL);have hs5:=hr5.scal rfl;have hs6:=hr6.scal rfl;have hs7:=hr7.scal rfl;have hs8:=hr8.scal rfl;refine cb Ia4 Tryz.func39 ?_
 intro O r F hO hr hF;cbv
 repeat' first|apply Zb|(apply bF<;>intro hb<;>cbv)|(refine⟨[1,2,3,32,33,34],[1,2,3],Int×aa,fun s_=>match s_ with|(i,out)=>[.reg 34 (.j i),.leaf 3 9 ⟨0,0,none,.own (.s 1 out)⟩],fun s_=>match s_ with|(i,out)=>0<=i/\i<=(a9.length:Int)/\out=a9.take i.toNat,fun s_=>match s_ with|(i,out)=>a9.length-i.toNat,⟨(0,[]),?_,?_⟩,?_⟩;rotate_left;(focus (cbv;done));intro s_ hi;obtain⟨i,out⟩:=s_;replace hi:0<=i/\i<=(a9.length:Int)/\out=a9.take i.toNat:=hi;obtain⟨i0,i1,i2⟩:=hi;cbv)|(refine ag (O.ar .add Za i 1,O.cat out [[.s 1 (O.gs a9 i 0)]]) ?_ ?_ ?_;focus (cbv;done))
 all_goals exact af8
theorem Ad:ec 26 eS:=by
 intro _ _ _ h hp;dsimp only[eS,F0,hL]at h;split at h;rotate_left;cases h;split at h<;>cases h
 rename_i a0 a1 a2 a3 a4 a5 a6 a7 a8 a9 aA aB aC aD aE aF aG aH aI aJ aK aL aM aN;have hr0:=hp.r0;have hc0:=hp.c0;have hl0:=au (es:=a0);have hr1:=hp.r1;have hc1:=hp.c1;have hl1:=au (es:=a1);have hr2:=hp.r2;have hc2:=hp.c2;have hl2:=au (es:=a2);have hr4:=hp.r4;have hc4:=hp.c4;have hl4:=au (es:=a4);have hr5:=hp.r5;have hc5:=hp.c5;have hl5:=au (es:=a5);have hr6:=hp.r6;have hc6:=hp.c6;have hl6:=au (es:=a6);have hr7:=hp.r7;have hc7:=hp.c7;have hl7:=au (es:=a7);have hr8:=hp.r8;have hc8:=hp.c8;have hl8:=au (es:=a8);have hr9:=hp.r9;have hc9:=hp.c9;have hl9:=au (es:=a9);have hr10:=hp.r10;have hc10:=hp.c10;have hl10:=au (es:=aA);have hr11:=hp.r11;have hc11:=hp.c11;have hl11:=au (es:=aB);have hr13:=hp.r13;have hc13:=hp.c13;have hl13:=au (es:=aD);have hr21:=hp.r21;have hc21:=hp.c21;have hl21:=au (es:=aL);have hs5:=hr5.scal rfl;have hs6:=hr6.scal rfl;have hs7:=hr7.scal rfl;have hs8:=hr8.scal rfl;refine cb Ia4 Tryz.func26 ?_
 intro O r F hO hr hF;cbv
 repeat' first|apply Zb|(apply bF<;>intro hb<;>cbv)|(refine⟨[1,2,3,4],[1,2,3],Int×aa,fun s_=>match s_ with|(i,out)=>[.reg 4 (.j i),.reg 3 (.one (.vw 3 0 0 0 (O.ln out))),.leaf 3 0 ⟨0,0,none,.own (.s 1 out)⟩],fun s_=>match s_ with|(i,out)=>0<=i/\i<=(a9.length:Int)/\out=a9.take i.toNat,fun s_=>match s_ with|(i,out)=>a9.length-i.toNat,⟨(0,[]),?_,?_⟩,?_⟩;rotate_left;(focus (cbv;done));intro s_ hi;obtain⟨i,out⟩:=s_;replace hi:0<=i/\i<=(a9.length:Int)/\out=a9.take i.toNat:=hi;obtain⟨i0,i1,i2⟩:=hi;cbv)|(refine ag (O.ar .add Za i 1,O.cat out [[.s 1 (O.gs a9 i 0)]]) ?_ ?_ ?_;focus (cbv;done))
 all_goals exact af8
end Go.V