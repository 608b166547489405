/-
  Contracts, by evaluation.
-/
import Derived.Test.YtniaaknbbceigaaGreatS10
import Derived.Test.YtniaaknbbceigaaGreatHB
import Derived.Test.YtniaaknbbceigaaGreatLayMq
set_option linter.all false
namespace Go.V
open Go Go.Proofs
set_option maxRecDepth 1000000
set_option maxHeartbeats 8000000
namespace Na0
structure Fns where
 no:Unit
def F0 :Fns:=⟨()⟩
def B :TB Tryz.prog:={Φ:=Fns,F0:=F0}
end Na0
theorem pE (d0 d1 d2 d3 e0 e1 e2 e3:Int)(hp:True):aP Tryz.prog 223 [.agg [.v (.int .i64 d0),.v (.int .i64 d1),.v (.int .i64 d2),.v (.int .i64 d3)],.ptr [.v (.int .i64 e0),.v (.int .i64 e1),.v (.int .i64 e2),.v (.int .i64 e3)]] [.one (.v (.bool (eqB d0 e0)))]:=by
 refine ai Na0.B ag mixed 9 _ [4] [.tmp 3] Tryz.func223 rfl rfl rfl rfl rfl ?_;intro O r (F:Na0.Fns) hO hr (hF:F=Na0.F0);cbv
 repeat' first|refine And.intro ?_ ?_|(refine aG (fun hb=>?_) (fun hb=>?_)<;>cbv)
 all_goals(subst hO hr hF;(try simp only[af,SS,sa,az]at*);(try simp only[nc]at*);(try simp only[aF]at*))
 all_goals first
  | (show(_:List DV)=_
     first
      |exact ah (dJ (by unfold eqB;simp only[SS,decide_eq_true_eq]))
      |done)
  |done
namespace Na1
structure Fns where
 eqB:Int->Int->Bool
def F0 :Fns:=⟨eqB⟩
def ct (F:Fns):CT:=fun f ds=>match f,ds with
 |223,[.agg [.v (.int .i64 d0),.v (.int .i64 d1),.v (.int .i64 d2),.v (.int .i64 d3)],.ptr [.v (.int .i64 e0),.v (.int .i64 e1),.v (.int .i64 e2),.v (.int .i64 e3)]]=>some (fun _=>True,[.one (.v (.bool (F.eqB d0 e0)))])
 |_,_=>none
theorem ak :aW Tryz.prog (ct F0):=by
 intro f ds pre res h hp;unfold ct at h;split at h<;>(try split at h)<;>cases h
 exact pE _ _ _ _ _ _ _ _ hp
def B :TB Tryz.prog:=tb ak
end Na1
theorem bI (os:List (List L))(e0 e1 e2 e3:Int)(hp:Rw [tI,tI,tI,tI] os/\os.length<=1099511627776):aP Tryz.prog 99 [.one (.s 4 os),.fn 223 [[.v (.int .i64 e0),.v (.int .i64 e1),.v (.int .i64 e2),.v (.int .i64 e3)]]] [.one (.v (.int .i64 (oiI os e0)))]:=by
 obtain⟨hw,hn⟩:=hp;refine ai Na1.B ag mixed 19 _ [3] [.tmp 4] Tryz.func99 rfl rfl rfl rfl rfl ?_;intro O r (F:Na1.Fns) hO hr (hF:F=Na1.F0);cbv
 repeat' first|refine And.intro ?_ ?_|(refine aG (fun hb=>?_) (fun hb=>?_)<;>cbv)|(refine⟨[0,1,7,8],[0],Int,fun i=>[.reg 8 (.one (.v (.int .i64 i)))],fun i=>0<=i/\i<=((os.length:Nat):Int)/\upto (bV (jB os e0)) i,fun i=>(os.length)-i.toNat,⟨0,?_,?_⟩,?_⟩;rotate_left;(focus (cbv;done));intro i hi;replace hi:0<=i/\i<=((os.length:Nat):Int)/\upto (bV (jB os e0)) i:=hi;obtain⟨i0,i1,i2⟩:=hi;cbv)|(refine aa (O.ar .add .i64 i 1) ?_ ?_ ?_;rotate_left 2;focus (cbv;done))
 all_goals(subst hO hr hF;(try simp only[af,SS,sa,az]at*);(try simp only[nc]at*);(try simp only[aF]at*))
 all_goals(try simp only[Na1.F0]at*)
 all_goals try rw[bD (by omega) (by omega)]
 all_goals first
  | (show(_:List DV)=_
     first
      |exact bj (dm i2 i0 (by assumption) (show jB os e0 i=true from by assumption)).symm
      |exact bj (dn i2 (by assumption)).symm
      |done)
  |omega
  |(refine⟨by omega,by omega,(Rw.eta (by first|assumption|exact Rw.sub (by first|assumption|exact Rw.sub (by assumption) (by omega) rfl) (by omega) rfl) (by omega) (by omega)).trans ?_⟩;rfl)
  |(show(lk _ _).isSome=true;kernel_rfl)
  |exact aL
  |exact ax i2 (hH (show jB os e0 i=false from by assumption))
  |done
namespace Na2
structure Fns where
 oiI:List (List L)->Int->Int
def F0 :Fns:=⟨oiI⟩
def ct (F:Fns):CT:=fun f ds=>match f,ds with
 |99,[.one (.s 4 os),.fn 223 [[.v (.int .i64 e0),.v (.int .i64 e1),.v (.int .i64 e2),.v (.int .i64 e3)]]]=>some (fun _=>Rw [tI,tI,tI,tI] os/\os.length<=1099511627776,[.one (.v (.int .i64 (F.oiI os e0)))])
 |_,_=>none
theorem ak :aW Tryz.prog (ct F0):=by
 intro f ds pre res h hp;unfold ct at h;split at h<;>(try split at h)<;>cases h
 exact bI _ _ _ _ _ hp
def B :TB Tryz.prog:=tb ak
end Na2
theorem bC (os:List (List L))(e0 e1 e2 e3:Int)(hp:Rw [tI,tI,tI,tI] os/\os.length<=1099511627776):aP Tryz.prog 222 [.one (.s 4 os),.fn 223 [[.v (.int .i64 e0),.v (.int .i64 e1),.v (.int .i64 e2),.v (.int .i64 e3)]]] [.one (.v (.bool (oiB os e0)))]:=by
 refine ai Na2.B ag mixed 9 _ [4] [.tmp 4] Tryz.func222 rfl rfl rfl rfl rfl ?_;intro O r (F:Na2.Fns) hO hr (hF:F=Na2.F0);cbv
 repeat' first|refine And.intro ?_ ?_|(refine aG (fun hb=>?_) (fun hb=>?_)<;>cbv)
 all_goals(subst hO hr hF;(try simp only[af,SS,sa,az]at*);(try simp only[nc]at*);(try simp only[aF]at*))
 all_goals(try simp only[Na2.F0]at*)
 all_goals first
  | (show(_:List DV)=_
     first
      |exact ah (dJ (by unfold oiB;simp only[SS,decide_eq_true_eq]))
      |done)
  |exact hp
  |done
namespace Na3
structure Fns where
 inR:Int->Int->Int->Bool
 oiB:List (List L)->Int->Bool
 dnK:List (List L)->List (List L)->Int->Int
 dnI:List (List L)->List (List L)->Int->Int
 dnS:List (List L)->Int->Int
 dnO:List (List L)->List (List L)->Int->Int
 clsOf:Int->Int
 dzK:List (List L)->List (List L)->Int->Int
 dzI:List (List L)->List (List L)->Int->Int
 dzS:List (List L)->List (List L)->Int->Int
 dzO:List (List L)->List (List L)->Int->Int
def F0 :Fns:=⟨inR,oiB,dnK,dnI,dnS,dnO,clsOf,dzK,dzI,dzS,dzO⟩
def ct (F:Fns):CT:=fun f ds=>match f,ds with
 |152,[.one (.v (.int .i64 x)),.one (.v (.int .i64 a)),.one (.v (.int .i64 b))]=>some (fun _=>True,[.one (.v (.bool (F.inR x a b)))])
 |222,[.one (.s 4 os),.fn 223 [[.v (.int .i64 e0),.v (.int .i64 e1),.v (.int .i64 e2),.v (.int .i64 e3)]]]=>some (fun _=>Rw [tI,tI,tI,tI] os/\os.length<=1099511627776,[.one (.v (.bool (F.oiB os e0)))])
 |98,[.one (.s 3 sp),.one (.s 3 lg),.one (.v (.int .i64 a))]=>some (fun _=>Rw [tI,tI,tI] sp/\Rw [tI,tI,tI] lg,[.agg [.v (.int .i64 (F.dnK sp lg a)),.v (.int .i64 (F.dnI sp lg a)),.v (.int .i64 (F.dnS sp a)),.v (.int .i64 (F.dnO sp lg a))]])
 |94,[.one (.v (.int .i64 s))]=>some (fun _=>True,[.one (.v (.int .i64 (F.clsOf s)))])
 |126,[.one (.v (.int .i64 x)),.one (.v (.int .i64 a)),.one (.v (.int .i64 b))]=>some (fun _=>True,[.one (.v (.bool (F.inR x a b)))])
 |77,[.one (.s 3 sp),.one (.s 3 lg),.one (.v (.int .i64 a))]=>some (fun _=>Rw [tI,tI,tI] sp/\Rw [tI,tI,tI] lg/\sp.length<=1073741824/\lg.length<=1073741824/\ -9223372036854775808<=a/\a<=9223372036854775807,[.agg [.v (.int .i64 (F.dzK sp lg a)),.v (.int .i64 (F.dzI sp lg a)),.v (.int .i64 (F.dzS sp lg a)),.v (.int .i64 (F.dzO sp lg a))]])
 |87,[.one (.v (.int .i64 s))]=>some (fun _=>True,[.one (.v (.int .i64 (F.clsOf s)))])
 |_,_=>none
theorem ak :aW Tryz.prog (ct F0):=by
 intro f ds pre res h hp;unfold ct at h;split at h<;>(try split at h)<;>cases h
 exact aN _ _ _ hp;exact bC _ _ _ _ _ hp;exact gj _ _ _ hp;exact jM _ hp;exact aU _ _ _ hp;exact eI _ _ _ hp;exact jQ _ hp
def B :TB Tryz.prog:=tb ak
end Na3
theorem ue (a0 a1 a2:List (List L))(a3:Int)(a4 a5 a6 a7 a8 a9 a10 a11:List (List L))(a12:Int)(a13:List (List L))(a14 a15 a16 a17:Int)(a18:Bool)(a19 a20:Int)(a21:List (List L))(a22 a23:Int)(hp:vG a6 a7 a8 a9 a10 a11 a13/\layOk a6 a7=true):aP Tryz.prog 149 [.agg [.s 1 a0,.s 1 a1,.s 2 a2,.v (.int .i64 a3),.s 1 a4,.s 2 a5,.s 3 a6,.s 3 a7,.s 4 a8,.s 1 a9,.s 1 a10,.s 1 a11,.v (.int .i64 a12),.s 3 a13,.v (.int .i64 a14),.v (.int .i64 a15),.v (.int .i64 a16),.v (.int .i64 a17),.v (.bool a18),.v (.int .i64 a19),.v (.int .i64 a20),.s 1 a21,.v (.int .i64 a22),.v (.int .i64 a23)]] [.one (.v (.bool (objOk a6 a7 a8 a9 a17)))]:=by
 obtain⟨N,hlay⟩:=hp;have how:=N.ow;have hol:=N.ol;have hsw:=N.sw;have hlw:=N.lw;have hsl:=N.sl;have hll:=N.ll;have hcl:=N.cl;have hlc:=fy (es:=a9);have hsb:aV .sub .i64 (a9.length:Int) 1=a9.length-1:=cH (by omega);refine ai Na3.B ag mixed 105 _ [4] [.tmp 2] Tryz.func149 rfl rfl rfl rfl rfl ?_;intro O r (F:Na3.Fns) hO hr (hF:F=Na3.F0);cbv
 repeat' first|refine And.intro ?_ ?_|(refine aG (fun hb=>?_) (fun hb=>?_)<;>cbv)|(refine⟨[1,9,10,11],[1],Int,fun i=>[.reg 11 (.one (.v (.int .i64 i)))],fun i=>0<=i/\i<=((a8.length:Nat):Int)/\upto (s7 a6 a7 a8 a9 a17) i,fun i=>(a8.length)-i.toNat,⟨0,?_,?_⟩,?_⟩;rotate_left;(focus (cbv;done));intro i hi;replace hi:0<=i/\i<=((a8.length:Nat):Int)/\upto (s7 a6 a7 a8 a9 a17) i:=hi;obtain⟨i0,i1,i2⟩:=hi;cbv)|(refine aa (O.ar .add .i64 i 1) ?_ ?_ ?_;rotate_left 2;focus (cbv;done))
 all_goals(subst hO hr hF;(try simp only[af,SS,sa,az]at*);(try simp only[nc]at*);(try simp only[aF]at*))
 all_goals(try simp only[Na3.F0]at*)
 all_goals try rw[bD (by omega) (by omega)]
 all_goals(try have z:=tF i0 (by omega))
 all_goals(try simp only[z,hsb,tG]at*)
 all_goals(try have d1:=fun h=>xO (sp:=a6) (lg:=a7) (a:=ab a8 i 1) h)
 all_goals(try have d3:=fun h=>I9 (sp:=a6) (lg:=a7) (a:=ab a8 i 1) h)
 all_goals first
  |(exfalso;omega)
  | (show(_:List DV)=_
     first
      |(refine ah ?_;symm;exact jv i0 (by assumption) (JN (by assumption) (by assumption)))
      |(refine ah ?_;symm;exact jv i0 (by assumption) (JO (by assumption)))
      |(refine ah ?_;symm;exact jv i0 (by assumption) (JP (by assumption)))
      |(refine ah ?_;symm;exact jv i0 (by assumption) (JQ (by assumption)))
      |(refine ah ?_;symm;exact jv i0 (by assumption) (BA (JW (by assumption))))
      |(refine ah ?_;symm;exact jv i0 (by assumption) (BA (OS (by first|exact .inl (by assumption)|exact .inr (by assumption)|exact .inl (by omega)) (by first|exact .inl (by assumption)|exact .inr (by assumption)|exact .inl (by omega)))))
      |(refine ah ?_;symm;exact Ft i2 (by omega))
      |(have q:false=true:=(by assumption);cases q)
      |done)
  |omega
  |(refine⟨by omega,by omega,(Rw.eta (by first|assumption|exact Rw.sub (by first|assumption|exact Rw.sub (by assumption) (by omega) rfl) (by omega) rfl) (by omega) (by omega)).trans ?_⟩;rfl)
  |(show aK _ _=true;kernel_rfl)
  |exact⟨hsw,hlw⟩
  |exact⟨Rw.take how _,by rw[List.length_take];omega⟩
  |exact aL
  |exact ax i2 (HY (by first|exact .inl (by omega)|exact .inr (by assumption)) (by assumption) (by assumption) (by assumption) (JX (by assumption) (by assumption) (by assumption)))
  |exact ax i2 (HY (by first|exact .inl (by omega)|exact .inr (by assumption)) (by assumption) (by assumption) (by assumption) (JY (by assumption) (by assumption) (by assumption)))
  |(have q:false=true:=(by assumption);cases q)
  |done
theorem sg (a0 a1 a2:List (List L))(a3:Int)(a4 a5 a6 a7 a8 a9 a10 a11:List (List L))(a12:Int)(a13:List (List L))(a14 a15 a16 a17:Int)(a18:Bool)(a19 a20:Int)(a21:List (List L))(a22 a23:Int)(hp:vG a6 a7 a8 a9 a10 a11 a13/\layOk a6 a7=true):aP Tryz.prog 127 [.agg [.s 1 a0,.s 1 a1,.s 2 a2,.v (.int .i64 a3),.s 1 a4,.s 2 a5,.s 3 a6,.s 3 a7,.s 4 a8,.s 1 a9,.s 1 a10,.s 1 a11,.v (.int .i64 a12),.s 3 a13,.v (.int .i64 a14),.v (.int .i64 a15),.v (.int .i64 a16),.v (.int .i64 a17),.v (.bool a18),.v (.int .i64 a19),.v (.int .i64 a20),.s 1 a21,.v (.int .i64 a22),.v (.int .i64 a23)]] [.one (.v (.bool (objOk a6 a7 a8 a9 a17)))]:=by
 obtain⟨N,hlay⟩:=hp;have how:=N.ow;have hol:=N.ol;have hsw:=N.sw;have hlw:=N.lw;have hsl:=N.sl;have hll:=N.ll;have hcl:=N.cl;have hlc:=fy (es:=a9);have hsb:aV .sub .i64 (a9.length:Int) 1=a9.length-1:=cH (by omega);refine ai Na3.B ag mixed 117 _ [4] [.tmp 2] Tryz.func127 rfl rfl rfl rfl rfl ?_;intro O r (F:Na3.Fns) hO hr (hF:F=Na3.F0);cbv
 repeat' first|refine And.intro ?_ ?_|(refine aG (fun hb=>?_) (fun hb=>?_)<;>cbv)|(refine⟨[1,3],[1],Int,fun i=>[.reg 3 (.one (.v (.int .i64 i)))],fun i=>0<=i/\i<=(a8.length:Int)/\upto (s7 a6 a7 a8 a9 a17) i,fun i=>a8.length-i.toNat,⟨0,?_,?_⟩,?_⟩;rotate_left;(focus (cbv;done));intro i hi;replace hi:0<=i/\i<=(a8.length:Int)/\upto (s7 a6 a7 a8 a9 a17) i:=hi;obtain⟨i0,i1,i2⟩:=hi;cbv)|(refine⟨[1,3,4,5],[1,4],Int,fun k=>[.reg 5 (.one (.v (.int .i64 k)))],fun k=>0<=k/\k<=i/\upto (fun j=> !eqB (ab a8 j 0) (ab a8 i 0)) k,fun k=>(i-k).toNat,⟨0,?_,?_⟩,?_⟩;rotate_left;(focus (cbv;done));intro k hk;replace hk:0<=k/\k<=i/\upto (fun j=> !eqB (ab a8 j 0) (ab a8 i 0)) k:=hk;obtain⟨k0,k1,k2⟩:=hk;cbv)|(refine aa (O.ar .add .i64 k 1) ?_ ?_ ?_;rotate_left 2;focus (cbv;done))|(refine aa (O.ar .add .i64 i 1) ?_ ?_ ?_;rotate_left 2;focus (cbv;done))
 all_goals(subst hO hr hF;(try simp only[af,SS,sa,az]at*);(try simp only[nc]at*);(try simp only[aF]at*))
 all_goals(try simp only[Na3.F0]at*)
 all_goals try rw[bD (by omega) (by omega)]
 all_goals(try have z:=tF i0 (by omega))
 all_goals(try simp only[z,hsb]at*)
 all_goals(try simp only[Ja hlay,Jb hlay,Jc hlay]at*)
 all_goals(try have z6:aV .add .i64 k 1=k+1:=aB (by omega))
 all_goals(try simp only[z6]at*)
 all_goals(try have d1:=fun h=>xO (sp:=a6) (lg:=a7) (a:=ab a8 i 1) h)
 all_goals(try have d3:=fun h=>I9 (sp:=a6) (lg:=a7) (a:=ab a8 i 1) h)
 all_goals(try have d4:=OQ (os:=a8) (i:=i) k2 (by omega) i0)
 all_goals first
  |(exfalso;omega)
  | (show(_:List DV)=_
     first
      |(refine ah ?_;symm;exact jv i0 (by assumption) (JN (by assumption) (by assumption)))
      |(refine ah ?_;symm;exact jv i0 (by assumption) (JO (by assumption)))
      |(refine ah ?_;symm;exact jv i0 (by assumption) (JP (by assumption)))
      |(refine ah ?_;symm;exact jv i0 (by assumption) (JQ (L4 k0 (by assumption) (by assumption) (by assumption))))
      |(refine ah ?_;symm;exact jv i0 (by assumption) (BA (JW (by assumption))))
      |(refine ah ?_;symm;exact jv i0 (by assumption) (BA (OS (by first|exact .inl (by assumption)|exact .inr (by assumption)|exact .inl (by omega)) (by first|exact .inl (by assumption)|exact .inr (by assumption)|exact .inl (by omega)))))
      |(refine ah ?_;symm;exact Ft i2 (by omega))
      |(have q:false=true:=(by assumption);cases q)
      |done)
  |omega
  |(refine⟨by omega,by omega,(Rw.eta (by first|assumption|exact Rw.sub (by first|assumption|exact Rw.sub (by assumption) (by omega) rfl) (by omega) rfl) (by omega) (by omega)).trans ?_⟩;rfl)
  |(show aK _ _=true;kernel_rfl)
  |exact⟨hsw,hlw,hsl,hll,sH how rfl (by omega)⟩
  |exact aL
  |exact ax k2 (by show(!eqB _ _)=true;rw[sD (by assumption)];rfl)
  |exact ax i2 (HY (by first|exact .inl (by omega)|exact .inr (by assumption)) (by assumption) (by assumption) (by assumption) (JX (by assumption) (by assumption) (by assumption)))
  |exact ax i2 (HY (by first|exact .inl (by omega)|exact .inr (by assumption)) (by assumption) (by assumption) (by assumption) (JY (by assumption) (by assumption) (by assumption)))
  |(have q:false=true:=(by assumption);cases q)
  |done
end Go.V