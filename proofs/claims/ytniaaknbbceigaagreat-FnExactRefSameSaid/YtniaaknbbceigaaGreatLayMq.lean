/-
  Contracts, by evaluation.
-/
import Derived.Test.YtniaaknbbceigaaGreatS10
import Derived.Test.YtniaaknbbceigaaGreatHB
import Derived.Test.YtniaaknbbceigaaGreatLayLq
set_option linter.all false
namespace Go.V
open Go Go.Proofs
set_option maxRecDepth 1000000
set_option maxHeartbeats 8000000
namespace Ma0
structure Fns where
 inR:Int->Int->Int->Bool
def F0 :Fns:=⟨inR⟩
def ct (F:Fns):CT:=fun f ds=>match f,ds with
 |152,[.one (.v (.int .i64 x)),.one (.v (.int .i64 a)),.one (.v (.int .i64 b))]=>some (fun _=>True,[.one (.v (.bool (F.inR x a b)))])
 |126,[.one (.v (.int .i64 x)),.one (.v (.int .i64 a)),.one (.v (.int .i64 b))]=>some (fun _=>True,[.one (.v (.bool (F.inR x a b)))])
 |_,_=>none
theorem ak :aW Tryz.prog (ct F0):=by
 intro f ds pre res h hp;unfold ct at h;split at h<;>(try split at h)<;>cases h
 exact aN _ _ _ hp;exact aU _ _ _ hp
def B :TB Tryz.prog:=tb ak
end Ma0
theorem rA (n a l:Int)(hp:0<=n/\n<=1099511627776):aP Tryz.prog 214 [.one (.v (.int .i64 n)),.agg [.v (.int .i64 a),.v (.int .i64 l)]] [.one (.v (.bool (rngIn n a l)))]:=by
 refine ai Ma0.B ag mixed 18 _ [4] [.tmp 4] Tryz.func214 rfl rfl rfl rfl rfl ?_;intro O r (F:Ma0.Fns) hO hr (hF:F=Ma0.F0);cbv
 repeat' first|refine And.intro ?_ ?_|(refine aG (fun hb=>?_) (fun hb=>?_)<;>cbv)
 all_goals(subst hO hr hF;(try simp only[af,SS,sa,az]at*);(try simp only[nc]at*);(try simp only[aF]at*))
 all_goals(try simp only[Ma0.F0]at*)
 all_goals(try have t:=bh.1 hb)
 all_goals(try have z:aV .sub .i64 n l=n-l:=cH (by omega))
 all_goals(try simp only[z]at*)
 all_goals first|(show(_:List DV)=_;refine ah ?_;unfold rngIn;simp[hb];done)|done
theorem vU (n a l:Int)(hp:0<=n/\n<=1099511627776):aP Tryz.prog 199 [.one (.v (.int .i64 n)),.agg [.v (.int .i64 a),.v (.int .i64 l)]] [.one (.v (.bool (rngIn n a l)))]:=by
 refine ai Ma0.B ag mixed 18 _ [4] [.tmp 4] Tryz.func199 rfl rfl rfl rfl rfl ?_;intro O r (F:Ma0.Fns) hO hr (hF:F=Ma0.F0);cbv
 repeat' first|refine And.intro ?_ ?_|(refine aG (fun hb=>?_) (fun hb=>?_)<;>cbv)
 all_goals(subst hO hr hF;(try simp only[af,SS,sa,az]at*);(try simp only[nc]at*);(try simp only[aF]at*))
 all_goals(try simp only[Ma0.F0]at*)
 all_goals(try have t:=bh.1 hb)
 all_goals(try have z:aV .sub .i64 n l=n-l:=cH (by omega))
 all_goals(try simp only[z]at*)
 all_goals first|(show(_:List DV)=_;refine ah ?_;unfold rngIn;simp[hb];done)|done
namespace Ma1
structure Fns where
 inR:Int->Int->Int->Bool
 rngIn:Int->Int->Int->Bool
def F0 :Fns:=⟨inR,rngIn⟩
def ct (F:Fns):CT:=fun f ds=>match f,ds with
 |152,[.one (.v (.int .i64 x)),.one (.v (.int .i64 a)),.one (.v (.int .i64 b))]=>some (fun _=>True,[.one (.v (.bool (F.inR x a b)))])
 |126,[.one (.v (.int .i64 x)),.one (.v (.int .i64 a)),.one (.v (.int .i64 b))]=>some (fun _=>True,[.one (.v (.bool (F.inR x a b)))])
 |214,[.one (.v (.int .i64 n)),.agg [.v (.int .i64 a),.v (.int .i64 l)]]=>some (fun _=>0<=n/\n<=1099511627776,[.one (.v (.bool (F.rngIn n a l)))])
 |199,[.one (.v (.int .i64 n)),.agg [.v (.int .i64 a),.v (.int .i64 l)]]=>some (fun _=>0<=n/\n<=1099511627776,[.one (.v (.bool (F.rngIn n a l)))])
 |_,_=>none
theorem ak :aW Tryz.prog (ct F0):=by
 intro f ds pre res h hp;unfold ct at h;split at h<;>(try split at h)<;>cases h
 exact aN _ _ _ hp;exact aU _ _ _ hp;exact rA _ _ _ hp;exact vU _ _ _ hp
def B :TB Tryz.prog:=tb ak
end Ma1
theorem pz (n:Int)(rs:List (List L))(hp:0<=n/\n<=1099511627776/\Rw [tI,tI] rs/\rs.length<=1099511627776):aP Tryz.prog 143 [.one (.v (.int .i64 n)),.one (.s 2 rs)] [.one (.v (.bool (rgOk n rs)))]:=by
 obtain⟨n0,n1,hw,hl⟩:=hp;refine ai Ma1.B ag mixed 43 _ [4] [.tmp 4] Tryz.func143 rfl rfl rfl rfl rfl ?_;intro O r (F:Ma1.Fns) hO hr (hF:F=Ma1.F0);cbv
 repeat' first|refine And.intro ?_ ?_|(refine aG (fun hb=>?_) (fun hb=>?_)<;>cbv)|(refine⟨[0,1,7,8,9],[],Int,fun i=>[.reg 9 (.one (.v (.int .i64 i)))],fun i=>0<=i/\i<=((rs.length:Nat):Int)/\upto (qF n rs) i,fun i=>(rs.length)-i.toNat,⟨0,?_,?_⟩,?_⟩;rotate_left;(focus (cbv;done));intro i hi;replace hi:0<=i/\i<=((rs.length:Nat):Int)/\upto (qF n rs) i:=hi;obtain⟨i0,i1,i2⟩:=hi;cbv)|(refine aa (O.ar .add .i64 i 1) ?_ ?_ ?_;rotate_left 2;focus (cbv;done))
 all_goals(subst hO hr hF;(try simp only[af,SS,sa,az]at*);(try simp only[nc]at*);(try simp only[aF]at*))
 all_goals(try simp only[Ma1.F0]at*)
 all_goals try rw[bD (by omega) (by omega)]
 all_goals(try have z:=tF i0 (by omega))
 all_goals(try simp only[z]at*)
 all_goals first
  | (show(_:List DV)=_
     first
      |(refine ah ?_;symm;exact F9 i0 (by assumption) (by assumption))
      |(refine ah ?_;symm;exact Ga i0 (by assumption) (by assumption) (by assumption))
      |(refine ah ?_;exact F8 i2 (by omega))
      |(have q:false=true:=(by assumption);cases q)
      |done)
  |omega
  |(refine⟨by omega,by omega,(Rw.eta (by first|assumption|exact Rw.sub (by first|assumption|exact Rw.sub (by assumption) (by omega) rfl) (by omega) rfl) (by omega) (by omega)).trans ?_⟩;rfl)
  |(show aK _ _=true;kernel_rfl)
  |exact aL
  |exact ax i2 (BZ (by assumption) (by omega))
  |exact ax i2 (B5 (by assumption) (by assumption))
  |done
theorem qx (n:Int)(rs:List (List L))(hp:0<=n/\n<=1099511627776/\Rw [tI,tI] rs/\rs.length<=1099511627776):aP Tryz.prog 119 [.one (.v (.int .i64 n)),.one (.s 2 rs)] [.one (.v (.bool (rgOk n rs)))]:=by
 obtain⟨n0,n1,hw,hl⟩:=hp;refine ai Ma1.B ag mixed 46 _ [4] [.tmp 4] Tryz.func119 rfl rfl rfl rfl rfl ?_;intro O r (F:Ma1.Fns) hO hr (hF:F=Ma1.F0);cbv
 repeat' first|refine And.intro ?_ ?_|(refine aG (fun hb=>?_) (fun hb=>?_)<;>cbv)|(refine⟨[0,1,5],[],Int,fun i=>[.reg 5 (.one (.v (.int .i64 i)))],fun i=>0<=i/\i<=((rs.length:Nat):Int)/\upto (qF n rs) i,fun i=>(rs.length)-i.toNat,⟨0,?_,?_⟩,?_⟩;rotate_left;(focus (cbv;done));intro i hi;replace hi:0<=i/\i<=((rs.length:Nat):Int)/\upto (qF n rs) i:=hi;obtain⟨i0,i1,i2⟩:=hi;cbv)|(refine aa (O.ar .add .i64 i 1) ?_ ?_ ?_;rotate_left 2;focus (cbv;done))
 all_goals(subst hO hr hF;(try simp only[af,SS,sa,az]at*);(try simp only[nc]at*);(try simp only[aF]at*))
 all_goals(try simp only[Ma1.F0]at*)
 all_goals try rw[bD (by omega) (by omega)]
 all_goals(try have z:=tF i0 (by omega))
 all_goals(try simp only[z]at*)
 all_goals first
  | (show(_:List DV)=_
     first
      |(refine ah ?_;symm;exact F9 i0 (by assumption) (by assumption))
      |(refine ah ?_;symm;exact Ga i0 (by assumption) (by assumption) (by assumption))
      |(refine ah ?_;exact F8 i2 (by omega))
      |(have q:false=true:=(by assumption);cases q)
      |done)
  |omega
  |(refine⟨by omega,by omega,(Rw.eta (by first|assumption|exact Rw.sub (by first|assumption|exact Rw.sub (by assumption) (by omega) rfl) (by omega) rfl) (by omega) (by omega)).trans ?_⟩;rfl)
  |(show aK _ _=true;kernel_rfl)
  |exact aL
  |exact ax i2 (BZ (by assumption) (by omega))
  |exact ax i2 (B5 (by assumption) (by assumption))
  |done
namespace Ma2
structure Fns where
 no:Unit
def F0 :Fns:=⟨()⟩
def B :TB Tryz.prog:={Φ:=Fns,F0:=F0}
end Ma2
theorem lZ (a l p:Int)(hp:True):aP Tryz.prog 254 [.agg [.v (.int .i64 a),.v (.int .i64 l)],.ptr [.v (.int .i64 p)]] [.one (.v (.bool (rh1 a l p)))]:=by
 refine ai Ma2.B ag mixed 17 _ [4] [.tmp 3] Tryz.func254 rfl rfl rfl rfl rfl ?_;intro O r (F:Ma2.Fns) hO hr (hF:F=Ma2.F0);cbv
 repeat' first|refine And.intro ?_ ?_|(refine aG (fun hb=>?_) (fun hb=>?_)<;>cbv)
 all_goals(subst hO hr hF;(try simp only[af,SS,sa,az]at*);(try simp only[nc]at*);(try simp only[aF]at*))
 all_goals first|(show(_:List DV)=_;refine ah ?_;unfold rh1;rw[decide_eq_true hb];rfl)|(show(_:List DV)=_;refine ah ?_;unfold rh1;rw[decide_eq_false (by omega)];rfl)|done
namespace Ma3
structure Fns where
 rh1:Int->Int->Int->Bool
def F0 :Fns:=⟨rh1⟩
def ct (F:Fns):CT:=fun f ds=>match f,ds with
 |254,[.agg [.v (.int .i64 a),.v (.int .i64 l)],.ptr [.v (.int .i64 p)]]=>some (fun _=>True,[.one (.v (.bool (F.rh1 a l p)))])
 |_,_=>none
theorem ak :aW Tryz.prog (ct F0):=by
 intro f ds pre res h hp;unfold ct at h;split at h<;>(try split at h)<;>cases h
 exact lZ _ _ _ hp
def B :TB Tryz.prog:=tb ak
end Ma3
theorem bF (os:List (List L))(id:Int)(hp:Rw [tI,tI] os/\os.length<=1099511627776):aP Tryz.prog 265 [.one (.s 2 os),.fn 254 [[.v (.int .i64 id)]]] [.one (.v (.int .i64 (rhI os id)))]:=by
 obtain⟨hw,hn⟩:=hp;refine ai Ma3.B ag mixed 19 _ [3] [.tmp 4] Tryz.func265 rfl rfl rfl rfl rfl ?_;intro O r (F:Ma3.Fns) hO hr (hF:F=Ma3.F0);cbv
 repeat' first|refine And.intro ?_ ?_|(refine aG (fun hb=>?_) (fun hb=>?_)<;>cbv)|(refine⟨[0,1,7,8],[0],Int,fun i=>[.reg 8 (.one (.v (.int .i64 i)))],fun i=>0<=i/\i<=((os.length:Nat):Int)/\upto (bV (mC os id)) i,fun i=>(os.length)-i.toNat,⟨0,?_,?_⟩,?_⟩;rotate_left;(focus (cbv;done));intro i hi;replace hi:0<=i/\i<=((os.length:Nat):Int)/\upto (bV (mC os id)) i:=hi;obtain⟨i0,i1,i2⟩:=hi;cbv)|(refine aa (O.ar .add .i64 i 1) ?_ ?_ ?_;rotate_left 2;focus (cbv;done))
 all_goals(subst hO hr hF;(try simp only[af,SS,sa,az]at*);(try simp only[nc]at*);(try simp only[aF]at*))
 all_goals(try simp only[Ma3.F0]at*)
 all_goals try rw[bD (by omega) (by omega)]
 all_goals first
  | (show(_:List DV)=_
     first
      |exact bj (dm i2 i0 (by assumption) (show mC os id i=true from by assumption)).symm
      |exact bj (dn i2 (by assumption)).symm
      |done)
  |omega
  |(refine⟨by omega,by omega,(Rw.eta (by first|assumption|exact Rw.sub (by first|assumption|exact Rw.sub (by assumption) (by omega) rfl) (by omega) rfl) (by omega) (by omega)).trans ?_⟩;rfl)
  |(show(lk _ _).isSome=true;kernel_rfl)
  |exact aL
  |exact ax i2 (hH (show mC os id i=false from by assumption))
  |done
namespace Ma4
structure Fns where
 rhI:List (List L)->Int->Int
def F0 :Fns:=⟨rhI⟩
def ct (F:Fns):CT:=fun f ds=>match f,ds with
 |265,[.one (.s 2 os),.fn 254 [[.v (.int .i64 id)]]]=>some (fun _=>Rw [tI,tI] os/\os.length<=1099511627776,[.one (.v (.int .i64 (F.rhI os id)))])
 |_,_=>none
theorem ak :aW Tryz.prog (ct F0):=by
 intro f ds pre res h hp;unfold ct at h;split at h<;>(try split at h)<;>cases h
 exact bF _ _ hp
def B :TB Tryz.prog:=tb ak
end Ma4
theorem bz (os:List (List L))(id:Int)(hp:Rw [tI,tI] os/\os.length<=1099511627776):aP Tryz.prog 253 [.one (.s 2 os),.fn 254 [[.v (.int .i64 id)]]] [.one (.v (.bool (rhB os id)))]:=by
 refine ai Ma4.B ag mixed 9 _ [4] [.tmp 4] Tryz.func253 rfl rfl rfl rfl rfl ?_;intro O r (F:Ma4.Fns) hO hr (hF:F=Ma4.F0);cbv
 repeat' first|refine And.intro ?_ ?_|(refine aG (fun hb=>?_) (fun hb=>?_)<;>cbv)
 all_goals(subst hO hr hF;(try simp only[af,SS,sa,az]at*);(try simp only[nc]at*);(try simp only[aF]at*))
 all_goals(try simp only[Ma4.F0]at*)
 all_goals first
  | (show(_:List DV)=_
     first
      |exact ah (dJ (by unfold rhB;simp only[SS,decide_eq_true_eq]))
      |done)
  |exact hp
  |done
namespace Ma5
structure Fns where
 rhB:List (List L)->Int->Bool
def F0 :Fns:=⟨rhB⟩
def ct (F:Fns):CT:=fun f ds=>match f,ds with
 |253,[.one (.s 2 os),.fn 254 [[.v (.int .i64 id)]]]=>some (fun _=>Rw [tI,tI] os/\os.length<=1099511627776,[.one (.v (.bool (F.rhB os id)))])
 |_,_=>none
theorem ak :aW Tryz.prog (ct F0):=by
 intro f ds pre res h hp;unfold ct at h;split at h<;>(try split at h)<;>cases h
 exact bz _ _ hp
def B :TB Tryz.prog:=tb ak
end Ma5
theorem pw (os:List (List L))(id:Int)(hp:Rw [tI,tI] os/\os.length<=1099511627776):aP Tryz.prog 219 [.one (.s 2 os),.one (.v (.int .i64 id))] [.one (.v (.bool (rhB os id)))]:=by
 refine ai Ma5.B ag mixed 8 _ [4] [.tmp 4] Tryz.func219 rfl rfl rfl rfl rfl ?_;intro O r (F:Ma5.Fns) hO hr (hF:F=Ma5.F0);cbv
 repeat' first|refine And.intro ?_ ?_|(refine aG (fun hb=>?_) (fun hb=>?_)<;>cbv)
 all_goals(subst hO hr hF;(try simp only[af,SS,sa,az]at*);(try simp only[nc]at*);(try simp only[aF]at*))
 all_goals first|exact hp|exact rfl|done
theorem qv (os:List (List L))(id:Int)(hp:Rw [tI,tI] os/\os.length<=1099511627776):aP Tryz.prog 203 [.one (.s 2 os),.one (.v (.int .i64 id))] [.one (.v (.bool (rhB os id)))]:=by
 obtain⟨hw,hn⟩:=hp;refine ai Ma2.B ag mixed 34 _ [4] [.tmp 4] Tryz.func203 rfl rfl rfl rfl rfl ?_;intro O r (F:Ma2.Fns) hO hr (hF:F=Ma2.F0);cbv
 repeat' first|refine And.intro ?_ ?_|(refine aG (fun hb=>?_) (fun hb=>?_)<;>cbv)|(refine⟨[0,1,5],[],Int,fun i=>[.reg 5 (.one (.v (.int .i64 i)))],fun i=>0<=i/\i<=((os.length:Nat):Int)/\upto (bV (mC os id)) i,fun i=>(os.length)-i.toNat,⟨0,?_,?_⟩,?_⟩;rotate_left;(focus (cbv;done));intro i hi;replace hi:0<=i/\i<=((os.length:Nat):Int)/\upto (bV (mC os id)) i:=hi;obtain⟨i0,i1,i2⟩:=hi;cbv)|(refine aa (O.ar .add .i64 i 1) ?_ ?_ ?_;rotate_left 2;focus (cbv;done))
 all_goals(subst hO hr hF;(try simp only[af,SS,sa,az]at*);(try simp only[nc]at*);(try simp only[aF]at*))
 all_goals try rw[bD (by omega) (by omega)]
 all_goals first
  | (show(_:List DV)=_
     first
      |(refine ah ?_;symm;exact Me i2 i0 (by assumption) (by assumption) (by assumption))
      |(refine ah ?_;symm;exact Pv i2 (by omega))
      |done)
  |omega
  |(refine⟨by omega,by omega,(Rw.eta (by first|assumption|exact Rw.sub (by first|assumption|exact Rw.sub (by assumption) (by omega) rfl) (by omega) rfl) (by omega) (by omega)).trans ?_⟩;rfl)
  |(show aK _ _=true;kernel_rfl)
  |exact aL
  |exact ax i2 (Ps (by omega))
  |exact ax i2 (Pu (by omega))
  |done
namespace Ma6
structure Fns where
 spOk:Int->Int->Int->Bool
def F0 :Fns:=⟨spOk⟩
def ct (F:Fns):CT:=fun f ds=>match f,ds with
 |216,[.agg [.v (.int .i64 p),.v (.int .i64 k),.v (.int .i64 b)]]=>some (fun _=>True,[.one (.v (.bool (F.spOk p k b)))])
 |200,[.agg [.v (.int .i64 p),.v (.int .i64 k),.v (.int .i64 b)]]=>some (fun _=>True,[.one (.v (.bool (F.spOk p k b)))])
 |_,_=>none
theorem ak :aW Tryz.prog (ct F0):=by
 intro f ds pre res h hp;unfold ct at h;split at h<;>(try split at h)<;>cases h
 exact ff _ _ _ hp;exact fq _ _ _ hp
def B :TB Tryz.prog:=tb ak
end Ma6
theorem pq (p1 k1 b1 p2 k2 b2:Int)(hp:True):aP Tryz.prog 220 [.agg [.v (.int .i64 p1),.v (.int .i64 k1),.v (.int .i64 b1)],.agg [.v (.int .i64 p2),.v (.int .i64 k2),.v (.int .i64 b2)]] [.one (.v (.bool (mshB p1 k1 b1 p2 k2 b2)))]:=by
 refine ai Ma6.B ag mixed 33 _ [4] [.tmp 4] Tryz.func220 rfl rfl rfl rfl rfl ?_;intro O r (F:Ma6.Fns) hO hr (hF:F=Ma6.F0);cbv
 repeat' first|refine And.intro ?_ ?_|(refine aG (fun hb=>?_) (fun hb=>?_)<;>cbv)
 all_goals(subst hO hr hF;(try simp only[af,SS,sa,az]at*);(try simp only[nc]at*);(try simp only[aF]at*))
 all_goals(try simp only[Ma6.F0]at*)
 all_goals first|(show(_:List DV)=_;refine ah ?_;unfold mshB;simp[*];done)|(show(_:List DV)=_;refine ah ?_;unfold mshB;subst_vars;rw[cmp_eq];simp[*];done)|done
theorem qq (p1 k1 b1 p2 k2 b2:Int)(hp:True):aP Tryz.prog 204 [.agg [.v (.int .i64 p1),.v (.int .i64 k1),.v (.int .i64 b1)],.agg [.v (.int .i64 p2),.v (.int .i64 k2),.v (.int .i64 b2)]] [.one (.v (.bool (mshB p1 k1 b1 p2 k2 b2)))]:=by
 refine ai Ma6.B ag mixed 33 _ [4] [.tmp 4] Tryz.func204 rfl rfl rfl rfl rfl ?_;intro O r (F:Ma6.Fns) hO hr (hF:F=Ma6.F0);cbv
 repeat' first|refine And.intro ?_ ?_|(refine aG (fun hb=>?_) (fun hb=>?_)<;>cbv)
 all_goals(subst hO hr hF;(try simp only[af,SS,sa,az]at*);(try simp only[nc]at*);(try simp only[aF]at*))
 all_goals(try simp only[Ma6.F0]at*)
 all_goals first|(show(_:List DV)=_;refine ah ?_;unfold mshB;simp[*];done)|(show(_:List DV)=_;refine ah ?_;unfold mshB;subst_vars;rw[cmp_eq];simp[*];done)|done
namespace Ma7
structure Fns where
 clsSz:Int->Int
def F0 :Fns:=⟨clsSz⟩
def ct (F:Fns):CT:=fun f ds=>match f,ds with
 |95,[.one (.v (.int .i64 k))]=>some (fun _=>True,[.one (.v (.int .i64 (F.clsSz k)))])
 |76,[.one (.v (.int .i64 k))]=>some (fun _=>True,[.one (.v (.int .i64 (F.clsSz k)))])
 |_,_=>none
theorem ak :aW Tryz.prog (ct F0):=by
 intro f ds pre res h hp;unfold ct at h;split at h<;>(try split at h)<;>cases h
 exact bU _ hp;exact cd _ hp
def B :TB Tryz.prog:=tb ak
end Ma7
theorem ic (qs:List (List L))(hp:Rw [tI,tI,tI] qs/\qs.length<=1073741824):aP Tryz.prog 93 [.one (.s 3 qs)] [.one (.v (.int .i64 (qcI qs)))]:=by
 obtain⟨hw,hl⟩:=hp;refine ai Ma7.B ag mixed 19 _ [3] [.tmp 2] Tryz.func93 rfl rfl rfl rfl rfl ?_;intro O r (F:Ma7.Fns) hO hr (hF:F=Ma7.F0);cbv
 repeat' first|refine And.intro ?_ ?_|(refine aG (fun hb=>?_) (fun hb=>?_)<;>cbv)|(refine⟨[3,6,7,8],[],Int×Int,fun s_=>match s_ with|(i,t)=>[.reg 8 (.one (.v (.int .i64 i))),.reg 3 (.one (.v (.int .i64 t)))],fun s_=>match s_ with|(i,t)=>0<=i/\i<=(qs.length:Int)/\GZ qs i t,fun s_=>match s_ with|(i,t)=>qs.length-i.toNat,⟨(0,0),?_,?_⟩,?_⟩;rotate_left;(focus (cbv;done));intro s_ hi;obtain⟨i,t⟩:=s_;replace hi:0<=i/\i<=(qs.length:Int)/\GZ qs i t:=hi;obtain⟨i0,i1,i2⟩:=hi;cbv)|(refine aa (O.ar .add .i64 i 1,O.ar .add .i64 t (F.clsSz (O.gi qs i 1))) ?_ ?_ ?_;rotate_left 2;focus (cbv;done))
 all_goals(subst hO hr hF;(try simp only[af,SS,sa,az]at*);(try simp only[nc]at*);(try simp only[aF]at*))
 all_goals(try simp only[Ma7.F0]at*)
 all_goals try rw[bD (by omega) (by omega)]
 all_goals first|(show(_:List DV)=_;exact bj (FU i2 i1 (by omega)))|omega|(refine⟨by omega,by omega,(Rw.eta (by first|assumption|exact Rw.sub (by first|assumption|exact Rw.sub (by assumption) (by omega) rfl) (by omega) rfl) (by omega) (by omega)).trans ?_⟩;rfl)|exact Pi|exact Kk i2 i0 (by omega)|done
theorem jp (qs:List (List L))(hp:Rw [tI,tI,tI] qs/\qs.length<=1073741824):aP Tryz.prog 89 [.one (.s 3 qs)] [.one (.v (.int .i64 (qcI qs)))]:=by
 obtain⟨hw,hl⟩:=hp;refine ai Ma7.B ag mixed 20 _ [3] [.tmp 2] Tryz.func89 rfl rfl rfl rfl rfl ?_;intro O r (F:Ma7.Fns) hO hr (hF:F=Ma7.F0);cbv
 repeat' first|refine And.intro ?_ ?_|(refine aG (fun hb=>?_) (fun hb=>?_)<;>cbv)|(refine⟨[0,3,4],[],Int×Int,fun s_=>match s_ with|(i,t)=>[.reg 4 (.one (.v (.int .i64 i))),.reg 3 (.one (.v (.int .i64 t)))],fun s_=>match s_ with|(i,t)=>0<=i/\i<=(qs.length:Int)/\GZ qs i t,fun s_=>match s_ with|(i,t)=>qs.length-i.toNat,⟨(0,0),?_,?_⟩,?_⟩;rotate_left;(focus (cbv;done));intro s_ hi;obtain⟨i,t⟩:=s_;replace hi:0<=i/\i<=(qs.length:Int)/\GZ qs i t:=hi;obtain⟨i0,i1,i2⟩:=hi;cbv)|(refine aa (O.ar .add .i64 i 1,O.ar .add .i64 t (F.clsSz (O.gi qs i 1))) ?_ ?_ ?_;rotate_left 2;focus (cbv;done))
 all_goals(subst hO hr hF;(try simp only[af,SS,sa,az]at*);(try simp only[nc]at*);(try simp only[aF]at*))
 all_goals(try simp only[Ma7.F0]at*)
 all_goals try rw[bD (by omega) (by omega)]
 all_goals first|(show(_:List DV)=_;exact bj (FU i2 i1 (by omega)))|omega|(refine⟨by omega,by omega,(Rw.eta (by first|assumption|exact Rw.sub (by first|assumption|exact Rw.sub (by assumption) (by omega) rfl) (by omega) rfl) (by omega) (by omega)).trans ?_⟩;rfl)|exact Pi|exact Kk i2 i0 (by omega)|done
namespace Ma8
structure Fns where
 inR:Int->Int->Int->Bool
 qtB:List (List L)->Int->Bool
def F0 :Fns:=⟨inR,qtB⟩
def ct (F:Fns):CT:=fun f ds=>match f,ds with
 |187,[.one (.v (.int .i64 k))]=>some (fun _=>True,[.one (.v (.bool (F.inR k 0 3)))])
 |255,[.one (.s 3 os),.one (.v (.int .i64 id))]=>some (fun _=>Rw [tI,tI,tI] os/\os.length<=1099511627776,[.one (.v (.bool (F.qtB os id)))])
 |126,[.one (.v (.int .i64 x)),.one (.v (.int .i64 a)),.one (.v (.int .i64 b))]=>some (fun _=>True,[.one (.v (.bool (F.inR x a b)))])
 |_,_=>none
theorem ak :aW Tryz.prog (ct F0):=by
 intro f ds pre res h hp;unfold ct at h;split at h<;>(try split at h)<;>cases h
 exact dK _ hp;exact jk _ _ hp;exact aU _ _ _ hp
def B :TB Tryz.prog:=tb ak
end Ma8
theorem rB (b:List (List L))(a c s:Int)(hp:Rw [tI,tI,tI] b/\b.length<=1073741824):aP Tryz.prog 221 [.one (.s 3 b),.agg [.v (.int .i64 a),.v (.int .i64 c),.v (.int .i64 s)]] [.one (.v (.bool (stlOk b a c s)))]:=by
 obtain⟨hw,hl⟩:=hp;have hs:aV .sub .i64 (b.length:Int) 1=b.length-1:=cH (by omega);refine ai Ma8.B ag mixed 40 _ [4] [.tmp 4] Tryz.func221 rfl rfl rfl rfl rfl ?_;intro O r (F:Ma8.Fns) hO hr (hF:F=Ma8.F0);cbv
 repeat' first|refine And.intro ?_ ?_|(refine aG (fun hb=>?_) (fun hb=>?_)<;>cbv)
 all_goals(subst hO hr hF;(try simp only[af,SS,sa,az]at*);(try simp only[nc]at*);(try simp only[aF]at*))
 all_goals(try simp only[Ma8.F0]at*)
 all_goals(try simp only[hs]at*)
 all_goals first|(refine⟨by omega,by omega,(Rw.eta (by first|assumption|exact Rw.sub (by first|assumption|exact Rw.sub (by assumption) (by omega) rfl) (by omega) rfl) (by omega) (by omega)).trans ?_⟩;rfl)|(show aK _ _=true;kernel_rfl)|exact⟨hw,by omega⟩|(show(_:List DV)=_;refine ah ?_;unfold stlOk;simp[*,b8];done)|(show(_:List DV)=_;refine ah ?_;unfold stlOk;rw[decide_eq_false (p:=0<=a) (by omega)];simp;done)|(show(_:List DV)=_;refine ah ?_;unfold stlOk;rw[decide_eq_false (p:=0<=s) (by omega)];simp;done)|(show(_:List DV)=_;refine ah ?_;unfold stlOk;rw[decide_eq_false (p:=b.length=0) (by omega)];simp[*,b8];done)|(show(_:List DV)=_;refine ah ?_;unfold stlOk;simp_all;done)|done
theorem uF (a c s:Int)(hp:True):aP Tryz.prog 205 [.agg [.v (.int .i64 a),.v (.int .i64 c),.v (.int .i64 s)]] [.one (.v (.bool (staB a c s)))]:=by
 refine ai Ma8.B ag mixed 16 _ [4] [.tmp 2] Tryz.func205 rfl rfl rfl rfl rfl ?_;intro O r (F:Ma8.Fns) hO hr (hF:F=Ma8.F0);cbv
 repeat' first|refine And.intro ?_ ?_|(refine aG (fun hb=>?_) (fun hb=>?_)<;>cbv)
 all_goals(subst hO hr hF;(try simp only[af,SS,sa,az]at*);(try simp only[nc]at*);(try simp only[aF]at*))
 all_goals(try simp only[Ma8.F0]at*)
 all_goals first|(show(_:List DV)=_;refine ah ?_;unfold staB;simp[*,b8];done)|(show(_:List DV)=_;refine ah ?_;unfold staB;rw[decide_eq_false (p:=0<=a) (by omega)];simp;done)|done
namespace Ma9
structure Fns where
 inR:Int->Int->Int->Bool
 stlOk:List (List L)->Int->Int->Int->Bool
 qcI:List (List L)->Int
 staB:Int->Int->Int->Bool
 qtB:List (List L)->Int->Bool
def F0 :Fns:=⟨inR,stlOk,qcI,staB,qtB⟩
def ct (F:Fns):CT:=fun f ds=>match f,ds with
 |152,[.one (.v (.int .i64 x)),.one (.v (.int .i64 a)),.one (.v (.int .i64 b))]=>some (fun _=>True,[.one (.v (.bool (F.inR x a b)))])
 |221,[.one (.s 3 b),.agg [.v (.int .i64 a),.v (.int .i64 c),.v (.int .i64 s)]]=>some (fun _=>Rw [tI,tI,tI] b/\b.length<=1073741824,[.one (.v (.bool (F.stlOk b a c s)))])
 |93,[.one (.s 3 qs)]=>some (fun _=>Rw [tI,tI,tI] qs/\qs.length<=1073741824,[.one (.v (.int .i64 (F.qcI qs)))])
 |126,[.one (.v (.int .i64 x)),.one (.v (.int .i64 a)),.one (.v (.int .i64 b))]=>some (fun _=>True,[.one (.v (.bool (F.inR x a b)))])
 |205,[.agg [.v (.int .i64 a),.v (.int .i64 c),.v (.int .i64 s)]]=>some (fun _=>True,[.one (.v (.bool (F.staB a c s)))])
 |206,[.agg [.v (.int .i64 rm),.s 3 os],.one (.v (.int .i64 id))]=>some (fun _=>Rw [tI,tI,tI] os/\os.length<=1099511627776,[.one (.v (.bool (F.qtB os id)))])
 |89,[.one (.s 3 qs)]=>some (fun _=>Rw [tI,tI,tI] qs/\qs.length<=1073741824,[.one (.v (.int .i64 (F.qcI qs)))])
 |_,_=>none
theorem ak :aW Tryz.prog (ct F0):=by
 intro f ds pre res h hp;unfold ct at h;split at h<;>(try split at h)<;>cases h
 exact aN _ _ _ hp;exact rB _ _ _ _ hp;exact ic _ hp;exact aU _ _ _ hp;exact uF _ _ _ hp;exact sc _ _ _ hp;exact jp _ hp
def B :TB Tryz.prog:=tb ak
end Ma9
theorem t7 (rm:Int)(qs:List (List L))(hp:Rw [tI,tI,tI] qs/\qs.length<=1073741824):aP Tryz.prog 147 [.agg [.v (.int .i64 rm),.s 3 qs]] [.one (.v (.bool (quarOk rm qs)))]:=by
 obtain⟨hw,hl⟩:=hp;refine ai Ma9.B ag mixed 32 _ [4] [.tmp 2] Tryz.func147 rfl rfl rfl rfl rfl ?_;intro O r (F:Ma9.Fns) hO hr (hF:F=Ma9.F0);cbv
 repeat' first|refine And.intro ?_ ?_|(refine aG (fun hb=>?_) (fun hb=>?_)<;>cbv)|(refine⟨[1,6,7,8],[1],Int,fun i=>[.reg 8 (.one (.v (.int .i64 i)))],fun i=>0<=i/\i<=((qs.length:Nat):Int)/\upto (yj qs) i,fun i=>(qs.length)-i.toNat,⟨0,?_,?_⟩,?_⟩;rotate_left;(focus (cbv;done));intro i hi;replace hi:0<=i/\i<=((qs.length:Nat):Int)/\upto (yj qs) i:=hi;obtain⟨i0,i1,i2⟩:=hi;cbv)|(refine aa (O.ar .add .i64 i 1) ?_ ?_ ?_;rotate_left 2;focus (cbv;done))
 all_goals(subst hO hr hF;(try simp only[af,SS,sa,az]at*);(try simp only[nc]at*);(try simp only[aF]at*))
 all_goals(try simp only[Ma9.F0]at*)
 all_goals try rw[bD (by omega) (by omega)]
 all_goals(try simp only[tG]at*)
 all_goals first
  | (show(_:List DV)=_
     first
      |(refine ah ?_;symm;exact BR i0 (by assumption) (by assumption))
      |(refine ah ?_;rw[FV i2 (by omega)];simp[*,b8];done)
      |done)
  |omega
  |(refine⟨by omega,by omega,(Rw.eta (by first|assumption|exact Rw.sub (by first|assumption|exact Rw.sub (by assumption) (by omega) rfl) (by omega) rfl) (by omega) (by omega)).trans ?_⟩;rfl)
  |(show aK _ _=true;kernel_rfl)
  |exact⟨hw,hl⟩
  |exact⟨Rw.take hw _,by rw[List.length_take];omega⟩
  |exact aL
  |exact ax i2 (by assumption)
  |done
theorem uC (rm:Int)(qs:List (List L))(hp:Rw [tI,tI,tI] qs/\qs.length<=1073741824):aP Tryz.prog 124 [.agg [.v (.int .i64 rm),.s 3 qs]] [.one (.v (.bool (quarOk rm qs)))]:=by
 obtain⟨hw,hl⟩:=hp;refine ai Ma9.B ag mixed 57 _ [4] [.tmp 2] Tryz.func124 rfl rfl rfl rfl rfl ?_;intro O r (F:Ma9.Fns) hO hr (hF:F=Ma9.F0);cbv
 repeat' first|refine And.intro ?_ ?_|(refine aG (fun hb=>?_) (fun hb=>?_)<;>cbv)|(refine⟨[1,3],[1],Int,fun i=>[.reg 3 (.one (.v (.int .i64 i)))],fun i=>0<=i/\i<=((qs.length:Nat):Int)/\upto (yj qs) i,fun i=>(qs.length)-i.toNat,⟨0,?_,?_⟩,?_⟩;rotate_left;(focus (cbv;done));intro i hi;replace hi:0<=i/\i<=((qs.length:Nat):Int)/\upto (yj qs) i:=hi;obtain⟨i0,i1,i2⟩:=hi;cbv)|(refine aa (O.ar .add .i64 i 1) ?_ ?_ ?_;rotate_left 2;focus (cbv;done))
 all_goals(subst hO hr hF;(try simp only[af,SS,sa,az]at*);(try simp only[nc]at*);(try simp only[aF]at*))
 all_goals(try simp only[Ma9.F0]at*)
 all_goals try rw[bD (by omega) (by omega)]
 all_goals(try simp only[tG]at*)
 all_goals(try have z:=tF i0 (by omega))
 all_goals(try simp only[z]at*)
 all_goals first
  | (show(_:List DV)=_
     first
      |(refine ah ?_;symm;exact BR i0 (by assumption) (Pd (by assumption)))
      |(refine ah ?_;symm;exact BR i0 (by assumption) (Pe (by omega) (by assumption) (by assumption)))
      |(refine ah ?_;symm;exact BR i0 (by assumption) (Pf (by assumption)))
      |(refine ah ?_;rw[FV i2 (by omega)];simp[*,b8];done)
      |(have q:false=true:=(by assumption);cases q)
      |done)
  |omega
  |(refine⟨by omega,by omega,(Rw.eta (by first|assumption|exact Rw.sub (by first|assumption|exact Rw.sub (by assumption) (by omega) rfl) (by omega) rfl) (by omega) (by omega)).trans ?_⟩;rfl)
  |(show aK _ _=true;kernel_rfl)
  |exact⟨hw,hl⟩
  |exact⟨Rw.take hw _,by rw[List.length_take];omega⟩
  |exact aL
  |exact ax i2 (Pg (by assumption) (by assumption) i0 (by omega))
  |exact ax i2 (Ph (by assumption) (by assumption) (by omega) (by assumption) (by assumption))
  |done
theorem ua (c:Int)(hp:True):aP Tryz.prog 258 [.one (.v (.int .i64 c))] [.one (.v (.bool (inR c 0 15)))]:=by
 refine ai Ma0.B ag mixed 5 _ [4] [.tmp 2] Tryz.func258 rfl rfl rfl rfl rfl ?_;intro O r (F:Ma0.Fns) hO hr (hF:F=Ma0.F0);cbv
 repeat' first|refine And.intro ?_ ?_|(refine aG (fun hb=>?_) (fun hb=>?_)<;>cbv)
 all_goals(subst hO hr hF;(try simp only[af,SS,sa,az]at*);(try simp only[nc]at*);(try simp only[aF]at*))
 all_goals first|exact rfl|done
theorem uf (c:Int)(hp:True):aP Tryz.prog 151 [.one (.v (.int .i64 c))] [.one (.v (.bool (inR c 0 1073741823)))]:=by
 refine ai Ma0.B ag mixed 5 _ [4] [.tmp 2] Tryz.func151 rfl rfl rfl rfl rfl ?_;intro O r (F:Ma0.Fns) hO hr (hF:F=Ma0.F0);cbv
 repeat' first|refine And.intro ?_ ?_|(refine aG (fun hb=>?_) (fun hb=>?_)<;>cbv)
 all_goals(subst hO hr hF;(try simp only[af,SS,sa,az]at*);(try simp only[nc]at*);(try simp only[aF]at*))
 all_goals first|exact rfl|done
namespace Mb1
structure Fns where
 inR:Int->Int->Int->Bool
def F0 :Fns:=⟨inR⟩
def ct (F:Fns):CT:=fun f ds=>match f,ds with
 |152,[.one (.v (.int .i64 x)),.one (.v (.int .i64 a)),.one (.v (.int .i64 b))]=>some (fun _=>True,[.one (.v (.bool (F.inR x a b)))])
 |258,[.one (.v (.int .i64 c))]=>some (fun _=>True,[.one (.v (.bool (F.inR c 0 15)))])
 |126,[.one (.v (.int .i64 x)),.one (.v (.int .i64 a)),.one (.v (.int .i64 b))]=>some (fun _=>True,[.one (.v (.bool (F.inR x a b)))])
 |_,_=>none
theorem ak :aW Tryz.prog (ct F0):=by
 intro f ds pre res h hp;unfold ct at h;split at h<;>(try split at h)<;>cases h
 exact aN _ _ _ hp;exact ua _ hp;exact aU _ _ _ hp
def B :TB Tryz.prog:=tb ak
end Mb1
theorem t6 (k m:Int)(cs:List (List L))(hp:Rw [tI] cs/\cs.length<=1099511627776):aP Tryz.prog 226 [.agg [.v (.int .i64 k),.v (.int .i64 m),.s 1 cs]] [.one (.v (.bool (plOk k m cs)))]:=by
 obtain⟨hw,hl⟩:=hp;refine ai Mb1.B ag mixed 46 _ [4] [.tmp 2] Tryz.func226 rfl rfl rfl rfl rfl ?_;intro O r (F:Mb1.Fns) hO hr (hF:F=Mb1.F0);cbv
 repeat' first|refine And.intro ?_ ?_|(refine aG (fun hb=>?_) (fun hb=>?_)<;>cbv)|(refine⟨[1,6,7,8],[1],Int,fun i=>[.reg 8 (.one (.v (.int .i64 i)))],fun i=>0<=i/\i<=((cs.length:Nat):Int)/\upto (Dc cs) i,fun i=>(cs.length)-i.toNat,⟨0,?_,?_⟩,?_⟩;rotate_left;(focus (cbv;done));intro i hi;replace hi:0<=i/\i<=((cs.length:Nat):Int)/\upto (Dc cs) i:=hi;obtain⟨i0,i1,i2⟩:=hi;cbv)|(refine aa (O.ar .add .i64 i 1) ?_ ?_ ?_;rotate_left 2;focus (cbv;done))
 all_goals(subst hO hr hF;(try simp only[af,SS,sa,az]at*);(try simp only[nc]at*);(try simp only[aF]at*))
 all_goals(try simp only[Mb1.F0]at*)
 all_goals try rw[bD (by omega) (by omega)]
 all_goals(try have z:=tF i0 (by omega))
 all_goals(try simp only[z]at*)
 all_goals first
  | (show(_:List DV)=_
     first
      |(refine ah ?_;symm;exact FN i0 (by assumption) (by assumption))
      |(refine ah ?_;symm;exact FO i0 (by assumption) (by omega) (by assumption))
      |(refine ah ?_;rw[wH i2 (by omega)];simp[*,b8];done)
      |(refine ah ?_;rw[wH i2 (by omega),v5];simp[*];done)
      |(have q:false=true:=(by assumption);cases q)
      |done)
  |omega
  |(refine⟨by omega,by omega,(Rw.eta (by first|assumption|exact Rw.sub (by first|assumption|exact Rw.sub (by assumption) (by omega) rfl) (by omega) rfl) (by omega) (by omega)).trans ?_⟩;rfl)
  |exact aL
  |exact ax i2 (BL (by assumption) (by omega))
  |exact ax i2 (BM (by assumption) (by assumption))
  |done
theorem uB (k m:Int)(cs:List (List L))(hp:Rw [tI] cs/\cs.length<=1099511627776):aP Tryz.prog 209 [.agg [.v (.int .i64 k),.v (.int .i64 m),.s 1 cs]] [.one (.v (.bool (plOk k m cs)))]:=by
 obtain⟨hw,hl⟩:=hp;refine ai Mb1.B ag mixed 51 _ [4] [.tmp 2] Tryz.func209 rfl rfl rfl rfl rfl ?_;intro O r (F:Mb1.Fns) hO hr (hF:F=Mb1.F0);cbv
 repeat' first|refine And.intro ?_ ?_|(refine aG (fun hb=>?_) (fun hb=>?_)<;>cbv)|(refine⟨[1,3],[1],Int,fun i=>[.reg 3 (.one (.v (.int .i64 i)))],fun i=>0<=i/\i<=((cs.length:Nat):Int)/\upto (Dc cs) i,fun i=>(cs.length)-i.toNat,⟨0,?_,?_⟩,?_⟩;rotate_left;(focus (cbv;done));intro i hi;replace hi:0<=i/\i<=((cs.length:Nat):Int)/\upto (Dc cs) i:=hi;obtain⟨i0,i1,i2⟩:=hi;cbv)|(refine aa (O.ar .add .i64 i 1) ?_ ?_ ?_;rotate_left 2;focus (cbv;done))
 all_goals(subst hO hr hF;(try simp only[af,SS,sa,az]at*);(try simp only[nc]at*);(try simp only[aF]at*))
 all_goals(try simp only[Mb1.F0]at*)
 all_goals try rw[bD (by omega) (by omega)]
 all_goals(try have z:=tF i0 (by omega))
 all_goals(try simp only[z]at*)
 all_goals first
  | (show(_:List DV)=_
     first
      |(refine ah ?_;symm;exact FN i0 (by assumption) (by assumption))
      |(refine ah ?_;symm;exact FO i0 (by assumption) (by omega) (by assumption))
      |(refine ah ?_;rw[wH i2 (by omega)];simp[*,b8];done)
      |(refine ah ?_;rw[wH i2 (by omega),v5];simp[*];done)
      |(have q:false=true:=(by assumption);cases q)
      |done)
  |omega
  |(refine⟨by omega,by omega,(Rw.eta (by first|assumption|exact Rw.sub (by first|assumption|exact Rw.sub (by assumption) (by omega) rfl) (by omega) rfl) (by omega) (by omega)).trans ?_⟩;rfl)
  |(show aK _ _=true;kernel_rfl)
  |exact aL
  |exact ax i2 (BL (by assumption) (by omega))
  |exact ax i2 (BM (by assumption) (by assumption))
  |done
namespace Mb2
structure Fns where
 plOk:Int->Int->List (List L)->Bool
 inR:Int->Int->Int->Bool
def F0 :Fns:=⟨plOk,inR⟩
def ct (F:Fns):CT:=fun f ds=>match f,ds with
 |226,[.agg [.v (.int .i64 k),.v (.int .i64 m),.s 1 cs]]=>some (fun _=>Rw [tI] cs/\cs.length<=1099511627776,[.one (.v (.bool (F.plOk k m cs)))])
 |152,[.one (.v (.int .i64 x)),.one (.v (.int .i64 a)),.one (.v (.int .i64 b))]=>some (fun _=>True,[.one (.v (.bool (F.inR x a b)))])
 |209,[.agg [.v (.int .i64 k),.v (.int .i64 m),.s 1 cs]]=>some (fun _=>Rw [tI] cs/\cs.length<=1099511627776,[.one (.v (.bool (F.plOk k m cs)))])
 |126,[.one (.v (.int .i64 x)),.one (.v (.int .i64 a)),.one (.v (.int .i64 b))]=>some (fun _=>True,[.one (.v (.bool (F.inR x a b)))])
 |_,_=>none
theorem ak :aW Tryz.prog (ct F0):=by
 intro f ds pre res h hp;unfold ct at h;split at h<;>(try split at h)<;>cases h
 exact t6 _ _ _ hp;exact aN _ _ _ hp;exact uB _ _ _ hp;exact aU _ _ _ hp
def B :TB Tryz.prog:=tb ak
end Mb2
theorem vN (k m:Int)(cs:List (List L))(ph nx:Int)(hp:Rw [tI] cs/\cs.length<=1099511627776):aP Tryz.prog 153 [.agg [.v (.int .i64 k),.v (.int .i64 m),.s 1 cs,.v (.int .i64 ph),.v (.int .i64 nx)]] [.one (.v (.bool (jbOk k m cs ph nx)))]:=by
 refine ai Mb2.B ag mixed 20 _ [4] [.tmp 2] Tryz.func153 rfl rfl rfl rfl rfl ?_;intro O r (F:Mb2.Fns) hO hr (hF:F=Mb2.F0);cbv
 repeat' first|refine And.intro ?_ ?_|(refine aG (fun hb=>?_) (fun hb=>?_)<;>cbv)
 all_goals(subst hO hr hF;(try simp only[af,SS,sa,az]at*);(try simp only[nc]at*);(try simp only[aF]at*))
 all_goals(try simp only[Mb2.F0]at*)
 all_goals first|exact hp|(show(_:List DV)=_;refine ah ?_;unfold jbOk;simp[*];done)|done
theorem vT (k m:Int)(cs:List (List L))(ph nx:Int)(hp:Rw [tI] cs/\cs.length<=1099511627776):aP Tryz.prog 130 [.agg [.v (.int .i64 k),.v (.int .i64 m),.s 1 cs,.v (.int .i64 ph),.v (.int .i64 nx)]] [.one (.v (.bool (jbOk k m cs ph nx)))]:=by
 refine ai Mb2.B ag mixed 20 _ [4] [.tmp 2] Tryz.func130 rfl rfl rfl rfl rfl ?_;intro O r (F:Mb2.Fns) hO hr (hF:F=Mb2.F0);cbv
 repeat' first|refine And.intro ?_ ?_|(refine aG (fun hb=>?_) (fun hb=>?_)<;>cbv)
 all_goals(subst hO hr hF;(try simp only[af,SS,sa,az]at*);(try simp only[nc]at*);(try simp only[aF]at*))
 all_goals(try simp only[Mb2.F0]at*)
 all_goals first|exact hp|(show(_:List DV)=_;refine ah ?_;unfold jbOk;simp[*];done)|done
namespace Mb3
structure Fns where
 inR:Int->Int->Int->Bool
 clsSz:Int->Int
 hasB:List (List L)->Int->Bool
def F0 :Fns:=⟨inR,clsSz,hasB⟩
def ct (F:Fns):CT:=fun f ds=>match f,ds with
 |187,[.one (.v (.int .i64 k))]=>some (fun _=>True,[.one (.v (.bool (F.inR k 0 3)))])
 |152,[.one (.v (.int .i64 x)),.one (.v (.int .i64 a)),.one (.v (.int .i64 b))]=>some (fun _=>True,[.one (.v (.bool (F.inR x a b)))])
 |95,[.one (.v (.int .i64 k))]=>some (fun _=>True,[.one (.v (.int .i64 (F.clsSz k)))])
 |126,[.one (.v (.int .i64 x)),.one (.v (.int .i64 a)),.one (.v (.int .i64 b))]=>some (fun _=>True,[.one (.v (.bool (F.inR x a b)))])
 |76,[.one (.v (.int .i64 k))]=>some (fun _=>True,[.one (.v (.int .i64 (F.clsSz k)))])
 |201,[.one (.s 1 l),.one (.v (.int .i64 x))]=>some (fun _=>Rw [tI] l,[.one (.v (.bool (F.hasB l x)))])
 |_,_=>none
theorem ak :aW Tryz.prog (ct F0):=by
 intro f ds pre res h hp;unfold ct at h;split at h<;>(try split at h)<;>cases h
 exact dK _ hp;exact aN _ _ _ hp;exact bU _ hp;exact aU _ _ _ hp;exact cd _ hp;exact fu _ _ hp
def B :TB Tryz.prog:=tb ak
end Mb3
theorem jP (ls:List (List L))(hp:Az ls):aP Tryz.prog 125 [.agg [.s 1 ls]] [.one (.v (.bool (caOk ls)))]:=by
 have hw:=hp.w;have hl:=hp.l;have hn:=hp.n;refine ai Mb3.B ag mixed 60 _ [4] [.tmp 2] Tryz.func125 rfl rfl rfl rfl rfl ?_;intro O r (F:Mb3.Fns) hO hr (hF:F=Mb3.F0);cbv
 repeat' first|refine And.intro ?_ ?_|(refine aG (fun hb=>?_) (fun hb=>?_)<;>cbv)|(refine⟨[1,3,4],[1,3],Int×List (List L),fun s_=>match s_ with|(i,o)=>[.reg 4 (.one (.v (.int .i64 i))),.reg 3 (.one (.vw 3 0 0 0 (O.ln o))),.leaf 3 0 ⟨0,0,none,.own (.s 1 o)⟩],fun s_=>match s_ with|(i,o)=>0<=i/\i<=4/\M1 ls i o,fun s_=>match s_ with|(i,o)=>(4-i).toNat,⟨(0,[]),?_,?_⟩,?_⟩;rotate_left;(focus (cbv;done));intro s_ hi;obtain⟨i,o⟩:=s_;replace hi:0<=i/\i<=4/\M1 ls i o:=hi;obtain⟨i0,i1,i2⟩:=hi;cbv)|(refine⟨[1,3,4,5],[1,3],Int×List (List L),fun s_=>match s_ with|(k,o1)=>[.reg 5 (.one (.v (.int .i64 k))),.reg 3 (.one (.vw 3 0 0 0 (O.ln o1))),.leaf 3 0 ⟨0,0,none,.own (.s 1 o1)⟩],fun s_=>match s_ with|(k,o1)=>0<=k/\k<=((ay ls i 0).length:Int)/\II ls i k o1,fun s_=>match s_ with|(k,o1)=>(ay ls i 0).length-k.toNat,⟨(0,o),?_,?_⟩,?_⟩;rotate_left;(focus (cbv;done));intro s_ hk;obtain⟨k,o1⟩:=s_;replace hk:0<=k/\k<=((ay ls i 0).length:Int)/\II ls i k o1:=hk;obtain⟨k0,k1,k2⟩:=hk;cbv)|(refine aa (O.ar .add .i64 k 1,O.cat o1 (O.sub [[.v (.int .i64 (O.gi (O.gs ls i 0) k 0))]] 0 (O.ln [[.v (.int .i64 (O.gi (O.gs ls i 0) k 0))]]))) ?_ ?_ ?_;rotate_left 2;focus (cbv;done))|(refine aa (O.ar .add .i64 i 1,o1) ?_ ?_ ?_;rotate_left 2;focus (cbv;done))
 all_goals(subst hO hr hF;(try simp only[af,SS,sa,az]at*);(try simp only[nc]at*);(try simp only[aF]at*))
 all_goals(try simp only[Mb3.F0]at*)
 all_goals try rw[bD (by omega) (by omega)]
 all_goals(try have z6:aV .add .i64 k 1=k+1:=aB (by have:=hn i;omega))
 all_goals(try simp only[z6]at*)
 all_goals(try have w1:=Mo k2 k0)
 all_goals(try have w2:=hp.el i0 (by omega))
 all_goals(try have w3:=w2.1)
 all_goals first
  | (show(_:List DV)=_
     first
      |(refine ah ?_;symm;exact vV (by assumption))
      |(refine ah ?_;symm;exact DC i0 (by omega) (by omega))
      |(refine ah ?_;symm;exact vW i0 (by omega) k0 (by assumption) (IW (by assumption)))
      |(refine ah ?_;symm;exact vW i0 (by omega) k0 (by assumption) (IX (by assumption)))
      |(refine ah ?_;symm;exact Mn k2 i0 k0 (by assumption) (by assumption))
      |(refine ah ?_;symm;exact DD i2.p (by omega) (by omega))
      |done)
  |omega
  |(refine⟨by omega,by omega,(Rw.eta (by first|assumption|exact Rw.sub (by first|assumption|exact Rw.sub (by assumption) (by omega) rfl) (by omega) rfl) (by omega) (by omega)).trans ?_⟩;rfl)
  |exact w1.2
  |(constructor<;>(simp only[List.length_cons,List.length_nil];omega))
  |(have c:=(fE (bh.2 (by omega:0<=i/\i<=3))).1;omega)
  |exact PQ k2 k0 (by assumption) (by assumption) (by assumption)
  |exact PP k2 i0 k1 (by omega)
  |exact Rk i2 i0 (by omega) (by omega)
  |exact Rj
  |exact⟨True.intro,True.intro⟩
  |done
theorem jL (ls:List (List L))(hp:Az ls):aP Tryz.prog 148 [.agg [.s 1 ls]] [.one (.v (.bool (caOk ls)))]:=by
 have hw:=hp.w;have hl:=hp.l;have hn:=hp.n;refine ai Mb3.B ag mixed 54 _ [4] [.tmp 2] Tryz.func148 rfl rfl rfl rfl rfl ?_;intro O r (F:Mb3.Fns) hO hr (hF:F=Mb3.F0);cbv
 repeat' first|refine And.intro ?_ ?_|(refine aG (fun hb=>?_) (fun hb=>?_)<;>cbv)|(refine⟨[1,3,10,11,12],[1,8],Int×List (List L),fun s_=>match s_ with|(i,es)=>[.reg 12 (.one (.v (.int .i64 i))),.leaf 8 0 ⟨0,0,none,.own (.m true es)⟩],fun s_=>match s_ with|(i,es)=>0<=i/\i<=(ls.length:Int)/\yV ls i es,fun s_=>match s_ with|(i,es)=>ls.length-i.toNat,⟨(0,[]),?_,?_⟩,?_⟩;rotate_left;(focus (cbv;done));intro s_ hi;obtain⟨i,es⟩:=s_;replace hi:0<=i/\i<=(ls.length:Int)/\yV ls i es:=hi;obtain⟨i0,i1,i2⟩:=hi;cbv)|(refine⟨[1,3,4,10,11,12,25,26,27],[1,8],Int×List (List L),fun s_=>match s_ with|(k,es1)=>[.reg 27 (.one (.v (.int .i64 k))),.leaf 8 0 ⟨0,0,none,.own (.m true es1)⟩],fun s_=>match s_ with|(k,es1)=>0<=k/\k<=((ay ls i 0).length:Int)/\yW ls i k es1,fun s_=>match s_ with|(k,es1)=>(ay ls i 0).length-k.toNat,⟨(0,es),?_,?_⟩,?_⟩;rotate_left;(focus (cbv;done));intro s_ hk;obtain⟨k,es1⟩:=s_;replace hk:0<=k/\k<=((ay ls i 0).length:Int)/\yW ls i k es1:=hk;obtain⟨k0,k1,k2⟩:=hk;cbv)|(refine aa (O.ar .add .i64 k 1,O.mu es1 (O.gi (O.gs ls i 0) k 0) (.v (.bool true))) ?_ ?_ ?_;rotate_left 2;focus (cbv;done))|(refine aa (O.ar .add .i64 i 1,es1) ?_ ?_ ?_;rotate_left 2;focus (cbv;done))
 all_goals(subst hO hr hF;(try simp only[af,SS,sa,az]at*);(try simp only[nc]at*);(try simp only[aF]at*))
 all_goals(try simp only[Mb3.F0]at*)
 all_goals try rw[bD (by omega) (by omega)]
 all_goals(try have z6:aV .add .i64 k 1=k+1:=aB (by have:=hn i;omega))
 all_goals(try simp only[z6]at*)
 all_goals(try have w2:=hp.el i0 (by omega))
 all_goals(try have w3:=w2.1)
 all_goals(try have w4:=k2.p.l)
 all_goals first
  | (show(_:List DV)=_
     first
      |(refine ah ?_;exact KU i2.p i1 (by omega))
      |(refine ah ?_;symm;exact Hz i2 i0 (by omega) (by assumption))
      |(refine ah ?_;symm;exact HA i2 i0 (by assumption) (by assumption))
      |(refine ah ?_;symm;exact vW i0 (by omega) k0 (by assumption) (IW (by assumption)))
      |(refine ah ?_;symm;exact vW i0 (by omega) k0 (by assumption) (IX (by assumption)))
      |(refine ah ?_;symm;exact HB k2 i0 k0 (by assumption) (by assumption))
      |done)
  |omega
  |(refine⟨by omega,by omega,(Rw.eta (by first|assumption|exact Rw.sub (by first|assumption|exact Rw.sub (by assumption) (by omega) rfl) (by omega) rfl) (by omega) (by omega)).trans ?_⟩;rfl)
  |(have c:=(fE (bh.2 (by omega:0<=i/\i<=3))).1;omega)
  |exact Lo k2 k0 (by assumption) (by assumption) (by assumption)
  |exact Ln k2 i0 k1 (by omega)
  |exact NW i2 i0 (by assumption) (by omega)
  |exact NV
  |done
end Go.V