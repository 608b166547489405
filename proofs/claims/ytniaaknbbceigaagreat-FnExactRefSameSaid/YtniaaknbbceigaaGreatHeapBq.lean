/-
  Contracts, by evaluation.
-/
import Derived.Test.YtniaaknbbceigaaGreatS10
import Derived.Test.YtniaaknbbceigaaGreatHA
import Derived.Test.YtniaaknbbceigaaGreatHeapAq
set_option linter.all false
namespace Go.V
open Go Go.Proofs
set_option maxRecDepth 1000000
set_option maxHeartbeats 8000000
namespace B0
structure Fns where
 no:Unit
def F0 :Fns:=⟨()⟩
def B :TB Tryz.prog:={Φ:=Fns,F0:=F0}
end B0
theorem jO (es:List (List L))(f:Int)(hp:Rw [tI,tI] es/\es.length<=1099511627776):aP Tryz.prog 236 [.agg [.s 2 es],.one (.v (.int .i64 f))] [.one (.s 1 (pagesOn es f))]:=by
 obtain⟨hw,hlen⟩:=hp;refine ai B0.B ag mixed 32 _ [31] [.tmp 4] Tryz.func236 rfl rfl rfl rfl rfl ?_;intro O r (F:B0.Fns) hO hr (hF:F=B0.F0);cbv
 repeat' first|refine And.intro ?_ ?_|(refine aG (fun hb=>?_) (fun hb=>?_)<;>cbv)|(refine⟨[1,5,10,11,12],[5],Int×List (List L),fun s_=>match s_ with|(i,out)=>[.reg 12 (.one (.v (.int .i64 i))),.reg 5 (.one (.vw 5 0 0 0 (O.ln out))),.leaf 5 0 ⟨0,0,none,.own (.s 1 out)⟩],fun s_=>match s_ with|(i,out)=>0<=i/\i<=(es.length:Int)/\out=tW es f i.toNat,fun s_=>match s_ with|(i,out)=>es.length-i.toNat,⟨(0,[]),?_,?_⟩,?_⟩;rotate_left;(focus (cbv;done));intro s_ hi;obtain⟨i,out⟩:=s_;replace hi:0<=i/\i<=(es.length:Int)/\out=tW es f i.toNat:=hi;obtain⟨i0,i1,i2⟩:=hi;cbv)|(refine aa (O.ar .add .i64 i 1,O.cat out (O.sub [[.v (.int .i64 i)]] 0 (O.ln [[.v (.int .i64 i)]]))) ?_ ?_ ?_;rotate_left 2;focus (cbv;done))|(refine aa (O.ar .add .i64 i 1,out) ?_ ?_ ?_;rotate_left 2;focus (cbv;done))
 all_goals(subst hO hr hF;(try simp only[af,SS,sa,az]at*);(try simp only[nc]at*);(try simp only[aF]at*))
 all_goals try rw[bD (by omega) (by omega)]
 all_goals try(have hpl:=qY (es:=es) (f:=f) (n:=i.toNat);rw[<-i2]at hpl)
 all_goals first|omega|(refine⟨by omega,by omega,(Rw.eta (by first|assumption|exact Rw.sub (by first|assumption|exact Rw.sub (by assumption) (by omega) rfl) (by omega) rfl) (by omega) (by omega)).trans ?_⟩;rfl)|(exact⟨trivial,trivial⟩)|rfl|(simp only[List.length_cons,List.length_nil];omega)|(rw[BJ i0 (by assumption) (by assumption), <-i2])|(rw[wE i0 (.inl (by assumption)), <-i2])|(rw[wE i0 (.inr (by assumption)), <-i2])|exact lN (by rw[i2,show i.toNat=es.length from by omega];rfl)|trace_state
theorem jS (es:List (List L))(f:Int)(hp:Rw [tI,tI] es/\es.length<=1099511627776):aP Tryz.prog 234 [.agg [.s 2 es],.one (.v (.int .i64 f))] [.one (.s 1 (pagesOn es f))]:=by
 obtain⟨hw,hlen⟩:=hp;refine ai B0.B ag mixed 37 _ [31] [.tmp 4] Tryz.func234 rfl rfl rfl rfl rfl ?_;intro O r (F:B0.Fns) hO hr (hF:F=B0.F0);cbv
 repeat' first|refine And.intro ?_ ?_|(refine aG (fun hb=>?_) (fun hb=>?_)<;>cbv)|(refine⟨[1,2,5,6],[2,5],Int×List (List L),fun s_=>match s_ with|(i,out)=>[.reg 6 (.one (.v (.int .i64 i))),.reg 5 (.one (.vw 5 0 0 0 (O.ln out))),.leaf 5 0 ⟨0,0,none,.own (.s 1 out)⟩],fun s_=>match s_ with|(i,out)=>0<=i/\i<=(es.length:Int)/\out=tW es f i.toNat,fun s_=>match s_ with|(i,out)=>es.length-i.toNat,⟨(0,[]),?_,?_⟩,?_⟩;rotate_left;(focus (cbv;done));intro s_ hi;obtain⟨i,out⟩:=s_;replace hi:0<=i/\i<=(es.length:Int)/\out=tW es f i.toNat:=hi;obtain⟨i0,i1,i2⟩:=hi;cbv)|(refine aa (O.ar .add .i64 i 1,O.cat out (O.sub [[.v (.int .i64 i)]] 0 (O.ln [[.v (.int .i64 i)]]))) ?_ ?_ ?_;rotate_left 2;focus (cbv;done))|(refine aa (O.ar .add .i64 i 1,out) ?_ ?_ ?_;rotate_left 2;focus (cbv;done))
 all_goals(subst hO hr hF;(try simp only[af,SS,sa,az]at*);(try simp only[nc]at*);(try simp only[aF]at*))
 all_goals try rw[bD (by omega) (by omega)]
 all_goals try(have hpl:=qY (es:=es) (f:=f) (n:=i.toNat);rw[<-i2]at hpl)
 all_goals first|omega|(refine⟨by omega,by omega,(Rw.eta (by first|assumption|exact Rw.sub (by first|assumption|exact Rw.sub (by assumption) (by omega) rfl) (by omega) rfl) (by omega) (by omega)).trans ?_⟩;rfl)|(exact⟨trivial,trivial⟩)|rfl|(simp only[List.length_cons,List.length_nil];omega)|(rw[BJ i0 (by assumption) (by assumption), <-i2])|(rw[wE i0 (.inl (by assumption)), <-i2])|(rw[wE i0 (.inr (by assumption)), <-i2])|exact lN (by rw[i2,show i.toNat=es.length from by omega];rfl)|trace_state
namespace B1
structure Fns where
 inR:Int->Int->Int->Bool
def F0 :Fns:=⟨inR⟩
def ct (F:Fns):CT:=fun f ds=>match f,ds with
 |152,[.one (.v (.int .i64 x)),.one (.v (.int .i64 a)),.one (.v (.int .i64 b))]=>some (fun _=>True,[.one (.v (.bool (F.inR x a b)))])
 |126,[.one (.v (.int .i64 x)),.one (.v (.int .i64 a)),.one (.v (.int .i64 b))]=>some (fun _=>True,[.one (.v (.bool (F.inR x a b)))])
 |_,_=>none
theorem ak :aW Tryz.prog (ct F0):=by
 intro f ds pre res h hp;unfold ct at h;split at h<;>(try split at h)<;>cases h
 exact aN _ _ _ hp;exact aU _ _ _ hp
def B :TB Tryz.prog:=tb ak
end B1
theorem di (es:List (List L))(p:Int)(hp:Rw [tI,tI] es):aP Tryz.prog 176 [.agg [.s 2 es],.one (.v (.int .i64 p))] [.agg [.v (.int .i64 (peM es p)),.v (.int .i64 (peF es p))]]:=by
 have hm:=hp.1;unfold maxLen at hm;have hsb:aV .sub .i64 (es.length:Int) 1=es.length-1:=cH (by omega);refine ai B1.B ag mixed 18 _ [138] [.cell 4 138] Tryz.func176 rfl rfl rfl rfl rfl ?_;intro O r (F:B1.Fns) hO hr (hF:F=B1.F0);cbv
 repeat' first|refine And.intro ?_ ?_|(refine aG (fun hb=>?_) (fun hb=>?_)<;>cbv)
 all_goals(subst hO hr hF;(try simp only[af,SS,sa,az]at*);(try simp only[nc]at*);(try simp only[aF]at*))
 all_goals(try simp only[B1.F0,hsb]at*)
 all_goals(try simp only[bh,kY]at*)
 all_goals first|exact AE (tg (by omega)).1.symm (tg (by omega)).2.symm|exact AE (oi (by omega)).1.symm (oi (by omega)).2.symm|(refine⟨by omega,by omega,(Rw.eta (by first|assumption|exact Rw.sub (by first|assumption|exact Rw.sub (by assumption) (by omega) rfl) (by omega) rfl) (by omega) (by omega)).trans ?_⟩;rfl)|trace_state
theorem eY (es:List (List L))(p:Int)(hp:Rw [tI,tI] es):aP Tryz.prog 72 [.agg [.s 2 es],.one (.v (.int .i64 p))] [.agg [.v (.int .i64 (peM es p)),.v (.int .i64 (peF es p))]]:=by
 have hm:=hp.1;unfold maxLen at hm;have hsb:aV .sub .i64 (es.length:Int) 1=es.length-1:=cH (by omega);refine ai B1.B ag mixed 18 _ [138] [.cell 4 138] Tryz.func72 rfl rfl rfl rfl rfl ?_;intro O r (F:B1.Fns) hO hr (hF:F=B1.F0);cbv
 repeat' first|refine And.intro ?_ ?_|(refine aG (fun hb=>?_) (fun hb=>?_)<;>cbv)
 all_goals(subst hO hr hF;(try simp only[af,SS,sa,az]at*);(try simp only[nc]at*);(try simp only[aF]at*))
 all_goals(try simp only[B1.F0,hsb]at*)
 all_goals(try simp only[bh,kY]at*)
 all_goals first|exact AE (tg (by omega)).1.symm (tg (by omega)).2.symm|exact AE (oi (by omega)).1.symm (oi (by omega)).2.symm|(refine⟨by omega,by omega,(Rw.eta (by first|assumption|exact Rw.sub (by first|assumption|exact Rw.sub (by assumption) (by omega) rfl) (by omega) rfl) (by omega) (by omega)).trans ?_⟩;rfl)|trace_state
namespace B2
structure Fns where
 peM:List (List L)->Int->Int
 peF:List (List L)->Int->Int
 pagesOn:List (List L)->Int->List (List L)
def F0 :Fns:=⟨peM,peF,pagesOn⟩
def ct (F:Fns):CT:=fun f ds=>match f,ds with
 |176,[.agg [.s 2 es],.one (.v (.int .i64 p))]=>some (fun _=>Rw [tI,tI] es,[.agg [.v (.int .i64 (F.peM es p)),.v (.int .i64 (F.peF es p))]])
 |236,[.agg [.s 2 es],.one (.v (.int .i64 f))]=>some (fun _=>Rw [tI,tI] es/\es.length<=1099511627776,[.one (.s 1 (F.pagesOn es f))])
 |72,[.agg [.s 2 es],.one (.v (.int .i64 p))]=>some (fun _=>Rw [tI,tI] es,[.agg [.v (.int .i64 (F.peM es p)),.v (.int .i64 (F.peF es p))]])
 |234,[.agg [.s 2 es],.one (.v (.int .i64 f))]=>some (fun _=>Rw [tI,tI] es/\es.length<=1099511627776,[.one (.s 1 (F.pagesOn es f))])
 |_,_=>none
theorem ak :aW Tryz.prog (ct F0):=by
 intro f ds pre res h hp;unfold ct at h;split at h<;>(try split at h)<;>cases h
 exact di _ _ hp;exact jO _ _ hp;exact eY _ _ hp;exact jS _ _ hp
def B :TB Tryz.prog:=tb ak
end B2
theorem eH (a0 a1 a2:List (List L))(a3:Int)(a4 a5 a6 a7 a8 a9 a10 a11:List (List L))(a12:Int)(a13:List (List L))(a14 a15 a16 a17:Int)(a18:Bool)(a19 a20:Int)(a21:List (List L))(a22 a23 pg:Int)(hp:Rw [tI,tI] a2/\a2.length<=1099511627776):aP Tryz.prog 179 [.agg [.s 1 a0,.s 1 a1,.s 2 a2,.v (.int .i64 a3),.s 1 a4,.s 2 a5,.s 3 a6,.s 3 a7,.s 4 a8,.s 1 a9,.s 1 a10,.s 1 a11,.v (.int .i64 a12),.s 3 a13,.v (.int .i64 a14),.v (.int .i64 a15),.v (.int .i64 a16),.v (.int .i64 a17),.v (.bool a18),.v (.int .i64 a19),.v (.int .i64 a20),.s 1 a21,.v (.int .i64 a22),.v (.int .i64 a23)],.one (.v (.int .i64 pg))] [.one (.s 1 (fpg a2 pg))]:=by
 obtain⟨hw,hn⟩:=hp;refine ai B2.B ag mixed 22 _ [31] [.tmp 4] Tryz.func179 rfl rfl rfl rfl rfl ?_;intro O r (F:B2.Fns) hO hr (hF:F=B2.F0);cbv
 repeat' first|refine And.intro ?_ ?_|(refine aG (fun hb=>?_) (fun hb=>?_)<;>cbv)
 all_goals(subst hO hr hF;(try simp only[af,SS,sa,az]at*);(try simp only[nc]at*);(try simp only[aF]at*))
 all_goals(try simp only[B2.F0]at*)
 all_goals first
  | (show(_:List DV)=_
     first
      |exact lN (zq (by assumption)).symm
      |exact lN (v8 (by assumption)).symm
      |done)
  |exact⟨hw,hn⟩
  |exact hw
  |exact⟨True.intro,True.intro⟩
  |trace_state
theorem eJ (a0 a1 a2:List (List L))(a3:Int)(a4 a5 a6 a7 a8 a9 a10 a11:List (List L))(a12:Int)(a13:List (List L))(a14 a15 a16 a17:Int)(a18:Bool)(a19 a20:Int)(a21:List (List L))(a22 a23 pg:Int)(hp:Rw [tI,tI] a2/\a2.length<=1099511627776):aP Tryz.prog 171 [.agg [.s 1 a0,.s 1 a1,.s 2 a2,.v (.int .i64 a3),.s 1 a4,.s 2 a5,.s 3 a6,.s 3 a7,.s 4 a8,.s 1 a9,.s 1 a10,.s 1 a11,.v (.int .i64 a12),.s 3 a13,.v (.int .i64 a14),.v (.int .i64 a15),.v (.int .i64 a16),.v (.int .i64 a17),.v (.bool a18),.v (.int .i64 a19),.v (.int .i64 a20),.s 1 a21,.v (.int .i64 a22),.v (.int .i64 a23)],.one (.v (.int .i64 pg))] [.one (.s 1 (fpg a2 pg))]:=by
 obtain⟨hw,hn⟩:=hp;refine ai B2.B ag mixed 23 _ [31] [.tmp 4] Tryz.func171 rfl rfl rfl rfl rfl ?_;intro O r (F:B2.Fns) hO hr (hF:F=B2.F0);cbv
 repeat' first|refine And.intro ?_ ?_|(refine aG (fun hb=>?_) (fun hb=>?_)<;>cbv)
 all_goals(subst hO hr hF;(try simp only[af,SS,sa,az]at*);(try simp only[nc]at*);(try simp only[aF]at*))
 all_goals(try simp only[B2.F0]at*)
 all_goals first
  | (show(_:List DV)=_
     first
      |exact lN (zq (by assumption)).symm
      |exact lN (v8 (by assumption)).symm
      |done)
  |exact⟨hw,hn⟩
  |exact hw
  |exact⟨True.intro,True.intro⟩
  |trace_state
theorem iF (l:List (List L))(x:Int)(hp:Rw [tI] l/\l.length<=1099511627776):aP Tryz.prog 237 [.one (.s 1 l),.one (.v (.int .i64 x))] [.one (.v (.int .i64 (idxI l x)))]:=by
 obtain⟨hw,hn⟩:=hp;refine ai B0.B ag mixed 19 _ [3] [.tmp 4] Tryz.func237 rfl rfl rfl rfl rfl ?_;intro O r (F:B0.Fns) hO hr (hF:F=B0.F0);cbv
 repeat' first|refine And.intro ?_ ?_|(refine aG (fun hb=>?_) (fun hb=>?_)<;>cbv)|(refine⟨[0,1,7,8],[0],Int,fun i=>[.reg 8 (.one (.v (.int .i64 i)))],fun i=>0<=i/\i<=((l.length:Nat):Int)/\upto (bV (C9 l x)) i,fun i=>(l.length)-i.toNat,⟨0,?_,?_⟩,?_⟩;rotate_left;(focus (cbv;done));intro i hi;replace hi:0<=i/\i<=((l.length:Nat):Int)/\upto (bV (C9 l x)) i:=hi;obtain⟨i0,i1,i2⟩:=hi;cbv)|(refine aa (O.ar .add .i64 i 1) ?_ ?_ ?_;rotate_left 2;focus (cbv;done))
 all_goals(subst hO hr hF;(try simp only[af,SS,sa,az]at*);(try simp only[nc]at*);(try simp only[aF]at*))
 all_goals try rw[bD (by omega) (by omega)]
 all_goals first
  | (show(_:List DV)=_
     first
      |exact bj (dm i2 i0 (by assumption) (show C9 l x i=true from js (by assumption))).symm
      |exact bj (dn i2 (by assumption)).symm
      |done)
  |omega
  |(refine⟨by omega,by omega,(Rw.eta (by first|assumption|exact Rw.sub (by first|assumption|exact Rw.sub (by assumption) (by omega) rfl) (by omega) rfl) (by omega) (by omega)).trans ?_⟩;rfl)
  |exact aL
  |exact ax i2 (hH (show C9 l x i=false from sD (by assumption)))
  |trace_state
namespace B3
structure Fns where
 idxI:List (List L)->Int->Int
def F0 :Fns:=⟨idxI⟩
def ct (F:Fns):CT:=fun f ds=>match f,ds with
 |237,[.one (.s 1 l),.one (.v (.int .i64 x))]=>some (fun _=>Rw [tI] l/\l.length<=1099511627776,[.one (.v (.int .i64 (F.idxI l x)))])
 |_,_=>none
theorem ak :aW Tryz.prog (ct F0):=by
 intro f ds pre res h hp;unfold ct at h;split at h<;>(try split at h)<;>cases h
 exact iF _ _ hp
def B :TB Tryz.prog:=tb ak
end B3
theorem d8 (l:List (List L))(x:Int)(hp:Rw [tI] l/\l.length<=1099511627776):aP Tryz.prog 180 [.one (.s 1 l),.one (.v (.int .i64 x))] [.one (.v (.bool (hasB l x)))]:=by
 refine ai B3.B ag mixed 9 _ [4] [.tmp 4] Tryz.func180 rfl rfl rfl rfl rfl ?_;intro O r (F:B3.Fns) hO hr (hF:F=B3.F0);cbv
 repeat' first|refine And.intro ?_ ?_|(refine aG (fun hb=>?_) (fun hb=>?_)<;>cbv)
 all_goals(subst hO hr hF;(try simp only[af,SS,sa,az]at*);(try simp only[nc]at*);(try simp only[aF]at*))
 all_goals(try simp only[B3.F0]at*)
 all_goals first
  | (show(_:List DV)=_
     first
      |exact ah (show b8 .geq (idxI l x) 0=decide (0<=idxI l x)from rfl)
      |done)
  |exact hp
  |trace_state
namespace B4
structure Fns where
 inR:Int->Int->Int->Bool
 fpg:List (List L)->Int->List (List L)
 hasB:List (List L)->Int->Bool
def F0 :Fns:=⟨inR,fpg,hasB⟩
def ct (F:Fns):CT:=fun f ds=>match f,ds with
 |152,[.one (.v (.int .i64 x)),.one (.v (.int .i64 a)),.one (.v (.int .i64 b))]=>some (fun _=>True,[.one (.v (.bool (F.inR x a b)))])
 |179,[.agg [.s 1 a0,.s 1 a1,.s 2 a2,.v (.int .i64 a3),.s 1 a4,.s 2 a5,.s 3 a6,.s 3 a7,.s 4 a8,.s 1 a9,.s 1 a10,.s 1 a11,.v (.int .i64 a12),.s 3 a13,.v (.int .i64 a14),.v (.int .i64 a15),.v (.int .i64 a16),.v (.int .i64 a17),.v (.bool a18),.v (.int .i64 a19),.v (.int .i64 a20),.s 1 a21,.v (.int .i64 a22),.v (.int .i64 a23)],.one (.v (.int .i64 pg))]=>some (fun _=>Rw [tI,tI] a2/\a2.length<=1099511627776,[.one (.s 1 (F.fpg a2 pg))])
 |180,[.one (.s 1 l),.one (.v (.int .i64 x))]=>some (fun _=>Rw [tI] l/\l.length<=1099511627776,[.one (.v (.bool (F.hasB l x)))])
 |126,[.one (.v (.int .i64 x)),.one (.v (.int .i64 a)),.one (.v (.int .i64 b))]=>some (fun _=>True,[.one (.v (.bool (F.inR x a b)))])
 |171,[.agg [.s 1 a0,.s 1 a1,.s 2 a2,.v (.int .i64 a3),.s 1 a4,.s 2 a5,.s 3 a6,.s 3 a7,.s 4 a8,.s 1 a9,.s 1 a10,.s 1 a11,.v (.int .i64 a12),.s 3 a13,.v (.int .i64 a14),.v (.int .i64 a15),.v (.int .i64 a16),.v (.int .i64 a17),.v (.bool a18),.v (.int .i64 a19),.v (.int .i64 a20),.s 1 a21,.v (.int .i64 a22),.v (.int .i64 a23)],.one (.v (.int .i64 pg))]=>some (fun _=>Rw [tI,tI] a2/\a2.length<=1099511627776,[.one (.s 1 (F.fpg a2 pg))])
 |_,_=>none
theorem ak :aW Tryz.prog (ct F0):=by
 intro f ds pre res h hp;unfold ct at h;split at h<;>(try split at h)<;>cases h
 exact aN _ _ _ hp;exact eH _ _ _ _ _ _ _ _ _ _ _ _ _ _ _ _ _ _ _ _ _ _ _ _ _ hp;exact d8 _ _ hp;exact aU _ _ _ hp;exact eJ _ _ _ _ _ _ _ _ _ _ _ _ _ _ _ _ _ _ _ _ _ _ _ _ _ hp
def B :TB Tryz.prog:=tb ak
end B4
theorem qy (a0 a1 a2:List (List L))(a3:Int)(a4 a5 a6 a7 a8 a9 a10 a11:List (List L))(a12:Int)(a13:List (List L))(a14 a15 a16 a17:Int)(a18:Bool)(a19 a20:Int)(a21:List (List L))(a22 a23 ix:Int)(hp:Rw [tI,tI] a2/\Rw [tI,tI,tI] a6/\a2.length<=1099511627776/\a6.length<=1099511627776):aP Tryz.prog 74 [.agg [.s 1 a0,.s 1 a1,.s 2 a2,.v (.int .i64 a3),.s 1 a4,.s 2 a5,.s 3 a6,.s 3 a7,.s 4 a8,.s 1 a9,.s 1 a10,.s 1 a11,.v (.int .i64 a12),.s 3 a13,.v (.int .i64 a14),.v (.int .i64 a15),.v (.int .i64 a16),.v (.int .i64 a17),.v (.bool a18),.v (.int .i64 a19),.v (.int .i64 a20),.s 1 a21,.v (.int .i64 a22),.v (.int .i64 a23)],.one (.v (.int .i64 ix))] [.one (.v (.int .i64 (ubB a2 a6 ix)))]:=by
 obtain⟨he,hw,hm,hn⟩:=hp;refine ai B4.B ag mixed 63 _ [3] [.tmp 4] Tryz.func74 rfl rfl rfl rfl rfl ?_;intro O r (F:B4.Fns) hO hr (hF:F=B4.F0);cbv
 repeat' first|refine And.intro ?_ ?_|(refine aG (fun hb=>?_) (fun hb=>?_)<;>cbv)|(refine⟨[2,5,6,7,8],[2,6],Int×Int,fun s_=>match s_ with|(j,c)=>[.reg 8 (.one (.v (.int .i64 j))),.reg 5 (.one (.v (.int .i64 c)))],fun s_=>match s_ with|(j,c)=>0<=j/\j<=(a6.length:Int)/\c=xz a6 (ab (fpg a2 (ab a6 ix 0)) k 0) b j.toNat,fun s_=>match s_ with|(j,c)=>a6.length-j.toNat,⟨(0,b),?_,?_⟩,?_⟩;rotate_left;(focus (cbv;done));intro s_ hj;obtain⟨j,c⟩:=s_;replace hj:0<=j/\j<=(a6.length:Int)/\c=xz a6 (ab (fpg a2 (ab a6 ix 0)) k 0) b j.toNat:=hj;obtain⟨j0,j1,j2⟩:=hj;cbv)|(refine aa (O.ar .add .i64 j 1,c) ?_ ?_ ?_;rotate_left 2;focus (cbv;done))|(refine aa (O.ar .add .i64 j 1,O.ar .or .i64 c (O.gi a6 j 2)) ?_ ?_ ?_;rotate_left 2;focus (cbv;done))|(refine aa (O.ar .add .i64 k 1,c) ?_ ?_ ?_;rotate_left 2;focus (cbv;done))|(refine⟨[2,5,6,7],[2,6],Int×Int,fun s_=>match s_ with|(k,b)=>[.reg 7 (.one (.v (.int .i64 k))),.reg 5 (.one (.v (.int .i64 b)))],fun s_=>match s_ with|(k,b)=>0<=k/\k<=((fpg a2 (ab a6 ix 0)).length:Int)/\b=CX a6 (fpg a2 (ab a6 ix 0)) (ab a6 ix 2) k.toNat,fun s_=>match s_ with|(k,b)=>(fpg a2 (ab a6 ix 0)).length-k.toNat,⟨(0,O.gi a6 ix 2),?_,?_⟩,?_⟩;rotate_left;(focus (cbv;done));intro s_ hk;obtain⟨k,b⟩:=s_;replace hk:0<=k/\k<=((fpg a2 (ab a6 ix 0)).length:Int)/\b=CX a6 (fpg a2 (ab a6 ix 0)) (ab a6 ix 2) k.toNat:=hk;obtain⟨k0,k1,k2⟩:=hk;cbv)
 all_goals(subst hO hr hF;(try simp only[af,SS,sa,az]at*);(try simp only[nc]at*);(try simp only[aF]at*))
 all_goals(try simp only[B4.F0]at*)
 all_goals(have hsb:aV .sub .i64 (a6.length:Int) 1=a6.length-1:=cH (by omega))
 all_goals(try simp only[hsb]at*)
 all_goals try(have hz:=bh.1 (‹inR ix 0 ((a6.length:Int)-1)=true›))
 all_goals(have hfp:=zt (es:=a2) (p:=ab a6 ix 0) hm)
 all_goals try(have hpr:=fP (l:=fpg a2 (ab a6 ix 0)) (i:=k) k0;simp only[hpr]at*)
 all_goals try rw[bD (by omega) (by omega)]
 all_goals first
  | (show(_:List DV)=_
     first
      |exact bj (PX (by assumption)).symm
      |exact bj ((k2.trans (by rw[show k.toNat=(fpg a2 (ab a6 ix 0)).length by omega,PW (Mt hw hz.1 (by omega))])).trans (Gw (by assumption)).symm)
      |done)
  | (show(_:Int)=_
     first
      |(rw[Iu j0 (by assumption), <-j2])
      |(rw[Mu j0 (by assumption), <-j2])
      |(rw[Mv k0, <-k2,j2,show j.toNat=a6.length by omega])
      |exact(rfl:ab a6 ix 2=CX a6 (fpg a2 (ab a6 ix 0)) (ab a6 ix 2) 0)
      |exact(rfl:b=xz a6 (ab (fpg a2 (ab a6 ix 0)) k 0) b 0)
      |done)
  |omega
  |(show aK _ _=true;kernel_rfl)
  |(refine⟨by omega,by omega,(Rw.eta (by first|assumption|exact Rw.sub (by first|assumption|exact Rw.sub (by assumption) (by omega) rfl) (by omega) rfl) (by omega) (by omega)).trans ?_⟩;rfl)
  |exact⟨he,hm⟩
  |exact Hu hfp.1 k0 (by omega)
  |exact⟨True.intro,True.intro⟩
  |trace_state
end Go.V