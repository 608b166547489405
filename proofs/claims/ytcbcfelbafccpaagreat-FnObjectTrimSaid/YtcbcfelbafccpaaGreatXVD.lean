/-
  A condition generator for functions on trees of data, part 4 of 5: values in memory, contracts, soundness.
-/
import Derived.Test.YtcbcfelbafccpaaGreatXVC
import Derived.IntWalk
import Derived.ProofKit
set_option linter.all false
open Go
open Bool renaming false_eq_true->Yj,rec->Vf,or_eq_false_iff->Vh,or_eq_true->Yc,and_eq_true->Zb,not_eq_true'->YK
open Cell renaming okWide->XQ,ok->XR
open Code renaming region->Vm,wp_mono->YJ
open DataW renaming trod->Xk,TrodAll->XS
open Ending renaming returned->XT
open Int renaming toNat_natCast->ZI,ofNat->Ww
open IntKind renaming i64->Za
open IntWalk renaming i64_in->YU
open List renaming mem_cons->Zj,any_cons->Vg,range->Ze,flatMap_cons->Y6,filter_filter->Wr,filter_congr->XM,mem_range->Z2,range_add->Wc,range_succ->Vi,filter_append->Ws,filter_eq_nil_iff->XN,mem_map->ZW,flatMap_append->Wt,append_nil->Z4,getElem?_eq_getElem->Zt,filter_eq_self->Vk,length_append->Zh,length_cons->Zr,length_nil->Zs,getD_eq_getElem?_getD->Zp,getElem?_append_left->ZN,getElem?_eq_none->Z8,all_eq_true->ZV,any_eq_true->XO,getElem?_eq_some_iff->ZB,getElem?_map->ZC,eq_nil_of_length_eq_zero->Yz,getElem?_drop->Zv,drop_drop->Z9,take_append_drop->ZK,length_drop->Zo,foldl_cons->Y1,getElem?_range->Xg,length_range->XJ,nil_append->ZS,map_cons->ZU,mem_of_getElem?->Zx,getElem?_of_mem->Yt,getD->ZE
open List.cons renaming injEq->Vd
open Nat renaming lt_or_ge->Z7,add_zero->Yi,le_refl->Zf,zero_add->ZP,blt->Wu,beq->Z5,eq_of_beq_eq_true->Ys,blt_eq->Vn,ne_of_beq_eq_false->Wv,add_mul->Zl,zero_le->ZG,succ_mul->We,mul_le_mul_right->ZJ,ble->YC,le_of_ble_eq_true->Y9
open NatCast renaming natCast->VF
open Option renaming isSome_some->Ve,bind_some->YD,getD_some->Z6,map_eq_some_iff->Zy,map_some->Yk,bind_eq_some_iff->XP
open Option.some renaming injEq->Yd
open Prod.mk renaming injEq->WQ
open Region renaming binds->Vj,ready->Vl
open Value renaming okWide->YR
open World renaming cell?->Yp
open _root_.Array renaming getElem?_toList->ZX,getD_eq_getD_getElem?->Yw,getElem?_eq_getElem->Xv,getElem?_eq_some_iff->Zz,replicate->YP,mapM_eq_mapM_toList->Wl
namespace Go.V
section
variable {P: Program} {T: wE} {n: Nat} {g: Gm}
def A8 (hT:bG P T){d:Option Tmp}{op:BinOp}{t:TypeId}{x y:Operand}{ls:List Loc}{out:Out}(h:(Iv T am n d op t x y).Runs g ls out):(Iu P n d op t x y).Runs g ls out:=by
 unfold Iv at h;unfold Iu;refine de ?_ h;intro a ls h;refine de ?_ h;intro b ls h;cases a with
 | v a=>
   cases b with
   | v b=>
     cases a with
     | int k a=>
       cases b with
       | int k' b=>
         by_cases hk:k=k'
         ·subst hk;cases op<;>first|exact h|(simp only[G4,DN,JX,DL,vu,GU,beq_self_eq_true,if_true,Yj,if_false]at h ⊢;exact h)|(simp only[G4,DN,JX,DL,vu,GU,beq_self_eq_true,if_true,Yj,if_false]at h ⊢;exact⟨trivial,h⟩)|(simp[G4,DN,JX,DL,Rd.Runs]at h)
         ·cases op<;>first|exact h|(simp[G4,hk,Rd.Runs]at h)
       |_=>exact h.elim
     | bool a=>
       cases b with
       | bool b=>
         rcases hT.bo t with e|⟨q,e,hb⟩
         ·simp[e,Rd.Runs]at h
         ·cases op<;>first|(simp only[e,hb,Ve,N9,Bool.true_and,Bool.and_true,if_true]at h ⊢;exact h)|(simp[N9,Rd.Runs]at h)
       |_=>exact h.elim
     |_=>exact h.elim
   |_=>cases a<;>exact h.elim
 |_=>exact h.elim
def Fv (hT:bG P T){d:Option Tmp}{op:BinOp}{t:TypeId}{x y:Operand}{ls:List Loc}{out:Out}(h:(zk T am n d op t x y).Runs g ls out):(A6 P n d op t x y).Runs g ls out:=by
 unfold zk at h;unfold A6;refine oy ?_ h;intro v ls h;cases v with
 | agg as=>
   simp only at h ⊢;unfold Iz at h ⊢;rcases hT.cm t with e|⟨q,e,e2⟩
   ·simp only[e]at h;exact h.elim
   ·simp only[e,e2]at h ⊢;exact h
 |one a=>exact A8 hT h
 |tup rs=>exact A8 hT h
def K1 {d:Option Tmp}{op:UnOp}{x:Operand}{ls:List Loc}{out:Out}(h:(P1 am n d op x).Runs g ls out):(vUn n d op x).Runs g ls out:=by
 unfold P1 at h;unfold vUn;refine de ?_ h;intro a ls h;cases a with
 |v a=>cases op<;>cases a<;>exact h
 |_=>cases op<;>exact h
def Hf {α:Type}{a:A}{k:Nat->Rd α}{ls:List Loc}{x:α}(h:(LO am a k).Runs g ls x):(Kb a k).Runs g ls x:=by
 cases a with
 | vn r j ver iv p lo m=>
   refine dD ?_ h;intro hv ls h
   revert h
   generalize hv.c=c;intro h;cases c with
   | own l=>
     refine cP (fun ls h=>?_) h;obtain⟨hs,h⟩:=h;obtain⟨⟨sz,es⟩,e⟩:=Option.isSome_iff_exists.1 hs;obtain⟨rec,o,f1,f2⟩:=oA e;simp only[f1,f2];exact h
   |ro l=>exact h
   |gone=>exact h
 | vw r j ver lo m=>
   refine dD ?_ h;intro hv ls h
   revert h
   generalize hv.c=c;intro h;cases c with
   |own l=>cases l<;>exact h
   |ro l=>exact h
   |gone=>exact h
 |_=>exact h
def y9 {α:Type}{ti:TI}{a:A}{k' k:af->List (Nat×Nat)->Rd α}{ls:List Loc}{x:α}(hk:∀ es src ls,(k' es src).Runs g ls x->(k es src).Runs g ls x)(h:(xJ am ti a k').Runs g ls x):(qO ti a k).Runs g ls x:=by
 cases a with
 |nl=>exact hk _ _ _ h
 |ro sz es=>exact cP (fun ls h=>kj id (fun ls h=>hk _ _ _ h) h) h
 | vw r j ver lo m=>
   refine dD ?_ h;intro hv ls h
   revert h
   generalize hv.c=c;intro h;cases c with
   | own l=>cases l with
     | s sz es=>
       refine cP (fun ls h=>?_) h;by_cases hs:gv ti.slots=true
       ·rw[VJ hs]at h ⊢;exact kj id (fun ls h=>hk _ _ _ h) h
       ·rw[VK hs]at h ⊢;exact kj id (fun ls h=>hk _ _ _ h) h
     |v x=>exact h
     |g=>exact h
     |m _ _=>exact h
   |ro l=>exact h
   |gone=>exact h
 | vn r j ver iv p lo m=>
   refine dD ?_ h;intro hv ls h
   revert h
   generalize hv.c=c;intro h;cases c with
   | own l=>
     refine cP (fun ls h=>?_) h;obtain⟨⟨h1,h2⟩,h⟩:=h;obtain⟨rec,o,f1,f2⟩:=oA h1;simp only[f1,f2,beq_self_eq_true,if_true];exact⟨h2,hk _ _ _ h⟩
   |ro l=>exact h
   |gone=>exact h
 |_=>exact h
def d4 (hT:bG P T){d:Option Tmp}{t t':TypeId}{s x:Operand}{ls:List Loc}{out:Out}(h:(oc T am n d t t' s x).Runs g ls out):(mD P n d t t' s x).Runs g ls out:=by
 revert h
 unfold oc mD;rcases hT.el t with e|⟨q,e,e2⟩
 ·simp only[e];exact fun h=>h.elim
 simp only[e,e2];intro h
 ·
   obtain⟨e,ti,b⟩:=q;refine cP (fun ls h=>?_) h;refine de ?_ h;intro a ls h;refine de ?_ h;intro b ls h;rw[so]at h;refine pI ?_ h;intro l og src ls h;cases l with
   | s sz es=>
     refine cP (fun ls h=>?_) h;refine y9 ?_ h;intro es2 src2 ls h;exact h
   |v y=>exact h
   |g=>exact h
   |m _ _=>exact h
def zg (hT:bG P T){d:Option Tmp}{t t':TypeId}{s x:Operand}{ls:List Loc}{out:Out}(h:(sv T am n d t t' s x).Runs g ls out):(oe P n d t t' s x).Runs g ls out:=by
 revert h
 unfold sv oe;rcases hT.el t with e|⟨q,e,e2⟩
 ·simp only[e];exact fun h=>h.elim
 simp only[e,e2];intro h;obtain⟨e,ti,b⟩:=q;refine cP (fun ls h=>?_) h;refine de ?_ h;intro a ls h;refine de ?_ h;intro b ls h;rw[so]at h;refine pI ?_ h;intro l og src ls h;cases l with
 |s sz es=>exact h
 |v y=>exact h
 |g=>exact h
 |m _ _=>exact h
def zh (hT:bG P T){d:Option Tmp}{t t':TypeId}{s x:Operand}{ls:List Loc}{out:Out}(h:(sx T am n d t t' s x).Runs g ls out):(oh P n d t t' s x).Runs g ls out:=by
 unfold sx at h;unfold oh;refine de ?_ h;intro b ls h;cases b with
 | vw r j ver lo m=>
   obtain⟨ls',e,h⟩:=h;refine⟨ls',e,?_⟩
   revert h;generalize g (Loc.meta_ r)=mv;intro h
   rcases hT.el t with e|⟨q,e,e2⟩
   ·simp only[e]at h;cases mv with
    |none=>exact d4 hT h
    | some v=>cases v with
      | m k bx=>cases bx with
        |true=>exact h.elim
        |false=>exact d4 hT h
      |_=>exact d4 hT h
   ·obtain⟨e0,ti,b⟩:=q;simp only[e,e2]at h ⊢;cases mv with
    |none=>exact d4 hT h
    | some v=>cases v with
      | m k bx=>cases bx with
        | true=>
          simp only at h ⊢;by_cases c:gv ti.slots=true
          ·rw[VJ c]at h ⊢;exact d4 hT h
          ·rw[VK c]at h ⊢;exact zg hT h
        |false=>exact d4 hT h
      |_=>exact d4 hT h
 |_=>exact d4 hT h
def zY (g:Gm){α τ:Type}(m:∀ {β:Type},(τ->Rd β)->Rd β)(k':τ->Rd α)(ls:List Loc)(x:α):Prop:=
 ∃ t ls',(k' t).Runs g ls' x/\∀ {β:Type} (k:τ->Rd β) (y:β),(k t).Runs g ls' y->(m k).Runs g ls y
def HN {α:Type}{l:Loc}{k':Val->Rd α}{ls:List Loc}{x:α}(h:(rd l k').Runs g ls x):zY g (fun k=>rd l k) k' ls x:=by
 unfold rd at h;obtain⟨ls',e,h⟩:=h;cases hg:g l with
 |none=>simp[hg,Rd.Runs]at h
 | some v=>
   simp only[hg]at h;refine⟨v,ls',h,?_⟩;intro β k y hy;refine⟨ls',e,?_⟩;simp only[hg];exact hy
def KC {α:Type}{d:Nat}{k':R->Rd α}{ls:List Loc}{x:α}(h:(Bw d k').Runs g ls x):zY g (fun k=>Bw d k) k' ls x:=by
 obtain⟨v,ls',h1,h2⟩:=HN h;cases v with
 |r y=>exact⟨y,ls',h1,fun k z hz=>h2 _ z hz⟩
 |_=>exact h1.elim
def uk {α:Type}{r j:Nat}{k':Hv->Rd α}{ls:List Loc}{x:α}(h:(gn r j k').Runs g ls x):zY g (fun k=>gn r j k) k' ls x:=by
 obtain⟨v,ls',h1,h2⟩:=HN h;cases v with
 |h y=>exact⟨y,ls',h1,fun k z hz=>h2 _ z hz⟩
 |_=>exact h1.elim
def B6 {α:Type}{o:Operand}{k':R->Rd α}{ls:List Loc}{x:α}(h:(ev o k').Runs g ls x):zY g (fun k=>ev o k) k' ls x:=by
 cases o with
 |tmp t=>exact KC h
 |const c=>exact⟨_,ls,h,fun k y hy=>hy⟩
 |_=>exact h.elim
def FR {α:Type}{slot:Option Nat}{a:A}{k':L->Rd α}{ls:List Loc}{x:α}(h:(Dp am slot a k').Runs g ls x):zY g (fun k=>BN slot a k) k' ls x:=by
 cases slot with
 | none=>
   cases a with
   | v y=>
     simp only[Dp]at h;split at h
     ·rename_i hs;exact⟨_,ls,h,fun k z hz=>by simp only[BN,hs,if_true];exact hz⟩
     ·exact h.elim
   |_=>exact h.elim
 | some sz=>
   cases a with
   |nl=>exact⟨_,ls,h,fun k y hy=>hy⟩
   | ro sz' es=>
     simp only[Dp]at h;split at h
     ·rename_i hs;exact⟨_,ls,h,fun k z hz=>by simp only[BN,hs,if_true];exact hz⟩
     ·exact h.elim
   | vw r j ver lo m=>
     obtain⟨hv,ls',h1,h2⟩:=uk h;cases hc:hv.c with
     | own l=>cases l with
       | s sz' es=>
         simp only[hc]at h1;split at h1
         ·rename_i hs;exact⟨_,ls',h1,fun k z hz=>h2 _ z (by simp only[hc,hs,if_true];exact hz)⟩
         ·exact h1.elim
       |v x=>simp[hc,Rd.Runs]at h1
       |g=>simp[hc,Rd.Runs]at h1
       |m _ _=>simp[hc,Rd.Runs]at h1
     |ro l=>simp[hc,Rd.Runs]at h1
     |gone=>simp[hc,Rd.Runs]at h1
   | vn r j ver iv p lo m=>
     obtain⟨hv,ls',h1,h2⟩:=uk h;cases hc:hv.c with
     | own l=>
       simp only[hc]at h1;split at h1
       ·rename_i hg;obtain⟨e1,h1⟩:=h1;obtain⟨rec,o,f1,f2⟩:=oA e1;refine⟨_,ls',h1,fun k z hz=>h2 _ z ?_⟩;simp only[hc,hg,if_true,f1,f2,beq_self_eq_true];exact hz
       ·exact h1.elim
     |ro l=>simp[hc,Rd.Runs]at h1
     |gone=>simp[hc,Rd.Runs]at h1
   |_=>exact h.elim
def k7 {α:Type}:∀ {sl:List (Option Nat)} {as:List A} {k':ax->Rd α} {ls:List Loc} {x:α},(jO am sl as k').Runs g ls x->zY g (fun k=>eL sl as k) k' ls x
 |[],[],_,ls,_,h=>⟨_,ls,h,fun _ _ hy=>hy⟩
 |[],_::_,_,_,_,h=>h.elim
 |_::_,[],_,_,_,h=>h.elim
 | _::_,_::_,_,_,_,h=>by
   obtain⟨l,ls1,h1,h2⟩:=FR h;obtain⟨l2,ls2,h3,h4⟩:=k7 h1;exact⟨l::l2,ls2,h3,fun k y hy=>h2 _ y (h4 _ y hy)⟩
def jJ {α:Type}{r:Nat}:∀ {m j:Nat} {k':ax->Rd α} {ls:List Loc} {x:α},(eX r j m k').Runs g ls x->zY g (fun k=>eX r j m k) k' ls x
 |0,_,_,ls,_,h=>⟨_,ls,h,fun _ _ hy=>hy⟩
 | m+1,j,_,_,_,h=>by
   obtain⟨hv,ls1,h1,h2⟩:=uk h;cases hc:hv.c with
   | own l=>
     simp only[hc]at h1;obtain⟨rec,ls2,h3,h4⟩:=jJ h1;exact⟨l::rec,ls2,h3,fun k y hy=>h2 _ y (by simp only[hc];exact h4 _ y hy)⟩
   | ro l=>
     simp only[hc]at h1;obtain⟨rec,ls2,h3,h4⟩:=jJ h1;exact⟨l::rec,ls2,h3,fun k y hy=>h2 _ y (by simp only[hc];exact h4 _ y hy)⟩
   |gone=>simp[hc,Rd.Runs]at h1
def JP {α:Type}{l:Loc}{k':Option Val->Rd α}{ls:List Loc}{x:α}(h:(Rd.get l k').Runs g ls x):zY g (fun k=>Rd.get l k) k' ls x:=by
 obtain⟨ls',e,h⟩:=h;exact⟨g l,ls',h,fun k y hy=>⟨ls',e,hy⟩⟩
def kF {α:Type}:∀ {cs:List BA} {k':af->Rd α} {ls:List Loc} {x:α},(ff cs k').Runs g ls x->zY g (fun k=>ff cs k) k' ls x
 |[],_,ls,_,h=>⟨_,ls,h,fun _ _ hy=>hy⟩
 | .pt r j::cs,_,_,_,h=>by
   obtain⟨v,ls1,h1,h2⟩:=JP h;dsimp only at h1;split at h1
   ·rename_i n;split at h1
    ·rename_i hj;obtain⟨rec,ls2,h3,h4⟩:=jJ h1;obtain⟨recs,ls3,h5,h6⟩:=kF h3;exact⟨rec::recs,ls3,h5,fun k y hy=>h2 _ y (by simp only[hj,if_true];exact h4 _ y (h6 _ y hy))⟩
    ·exact h1.elim
   ·exact h1.elim
 | .rp rec j::cs,_,_,_,h=>by
   simp only[ff]at h;split at h
   ·rename_i hj;obtain⟨recs,ls3,h5,h6⟩:=kF h;exact⟨_,ls3,h5,fun k y hy=>by simp only[ff,hj,if_true];exact h6 _ y hy⟩
   ·exact h.elim
def yl {α:Type}{o:Operand}{k':A->Rd α}{ls:List Loc}{x:α}(h:(fF o k').Runs g ls x):zY g (fun k=>fF o k) k' ls x:=by
 obtain⟨v,ls1,h1,h2⟩:=B6 h;cases v with
 |one a=>exact⟨a,ls1,h1,fun k y hy=>h2 _ y hy⟩
 |agg as=>exact h1.elim
 |tup rs=>exact h1.elim
def FU (hT:bG P T){α:Type}{t:TypeId}{o:Operand}{k':DV->Rd α}{ls:List Loc}{x:α}(h:(FT (lk T.ptL t) o k').Runs g ls x):zY g (fun k=>FT (Eg P t) o k) k' ls x:=by
 obtain⟨v,ls1,h1,h2⟩:=yl h;cases v with
 | pt r j=>
   rcases hT.pt t with e|⟨ti,e,e2⟩
   ·simp[e,Rd.Runs]at h1
   ·simp only[e]at h1;split at h1
    ·rename_i hp;obtain⟨rec,ls2,h3,h4⟩:=jJ h1;exact⟨_,ls2,h3,fun k y hy=>h2 _ y (by simp only[e2,hp,if_true];exact h4 _ y hy)⟩
    ·exact h1.elim
 | rp rec j=>
   rcases hT.pt t with e|⟨ti,e,e2⟩
   ·simp[e,Rd.Runs]at h1
   ·simp only[e]at h1;split at h1
    ·rename_i hp;exact⟨_,ls1,h1,fun k y hy=>h2 _ y (by simp only[e2];rw[VJ hp];exact hy)⟩
    ·exact h1.elim
 | fn f caps=>
   obtain⟨recs,ls2,h3,h4⟩:=kF h1;exact⟨_,ls2,h3,fun k y hy=>h2 _ y (h4 _ y hy)⟩
 |_=>exact h1.elim
def FQ (hT:bG P T){α:Type}{t:TypeId}{o:Operand}{k':DV->Rd α}{ls:List Loc}{x:α}(h:(FP T am t o k').Runs g ls x):zY g (fun k=>BL P t o k) k' ls x:=by
 unfold FP at h;rcases hT.ty t with e|⟨ti,e,hti⟩
 ·simp only[e]at h;split at h
  ·rename_i hp;rcases hT.pn t with f|⟨_,_,f⟩
   ·simp[f]at hp
   ·obtain⟨d,ls1,h1,h2⟩:=FU hT h;exact⟨d,ls1,h1,fun k y hy=>by unfold BL;simp only[f];exact h2 _ y hy⟩
  ·exact h.elim
 ·simp only[e]at h;obtain⟨v,ls1,h1,h2⟩:=B6 h;cases v with
  | one a=>
    simp only at h1;split at h1
    ·exact h1.elim
    ·rename_i hb;obtain⟨l,ls2,h3,h4⟩:=k7 h1;simp only at h3;split at h3
     ·refine⟨_,ls2,h3,fun k y hy=>?_⟩;unfold BL;simp only[hti];refine h2 _ y ?_;simp only;rw[VK hb];exact h4 _ y hy
     ·exact h3.elim
  | agg as=>
    simp only at h1;split at h1
    ·rename_i hb;obtain⟨l,ls2,h3,h4⟩:=k7 h1;refine⟨_,ls2,h3,fun k y hy=>?_⟩;unfold BL;simp only[hti];refine h2 _ y ?_;simp only;rw[VJ hb];exact h4 _ y hy
    ·exact h1.elim
  |tup rs=>exact h1.elim
def ri (hT:bG P T){α:Type}:∀ {ts:List TypeId} {xs:List Operand} {k':List DV->Rd α} {ls:List Loc} {x:α},(xY T am ts xs k').Runs g ls x->zY g (fun k=>pO P ts xs k) k' ls x
 |[],[],_,ls,_,h=>⟨_,ls,h,fun _ _ hy=>hy⟩
 |[],_::_,_,_,_,h=>h.elim
 |_::_,[],_,_,_,h=>h.elim
 | _::_,_::_,_,_,_,h=>by
   obtain⟨l,ls1,h1,h2⟩:=FQ hT h;obtain⟨l2,ls2,h3,h4⟩:=ri hT h1;exact⟨l::l2,ls2,h3,fun k y hy=>h2 _ y (h4 _ y hy)⟩
def ET {α:Type}{d:Option Tmp}{k':Nat->Rd α}{ls:List Loc}{x:α}(h:(fresh n d k').Runs g ls x):zY g (fun k=>fresh n d k) k' ls x:=by
 cases d with
 |none=>exact h.elim
 | some d=>
   simp only[fresh]at h;split at h
   ·rename_i hlt;obtain⟨ls',e,h⟩:=h;cases hg:g (.meta_ d)with
    | none=>
      simp only[hg]at h;refine⟨d,ls',h,fun k y hy=>?_⟩;simp only[fresh,hlt,if_true,Rd.Runs];exact⟨ls',e,by simp only[hg];exact hy⟩
    |some v=>simp[hg,Rd.Runs]at h
   ·exact h.elim
def xR (P:Program)(ct:CT):Prop:=∀ f ds pre res,ct f ds=some (pre,res)->pre ()->FI P f ds res
def BD (P:Program)(mt:MT):Prop:=∀ f mk,mt f=some mk->∀ ds pre outs res,mk ds=some (pre,outs,res)->pre ()->EH P f ds outs res
def BI (P:Program)(pt:FuncId->Option PK):Prop:=∀ f mk,pt f=some mk->∀ ds pre outs res,mk ds=some (pre,outs,res)->pre ()->xV P f ds outs res
def BE (P:Program)(nt:FuncId->Option NK):Prop:=∀ f mk,nt f=some mk->∀ ds pre hs,mk ds=some (pre,hs)->pre ()->EI P f ds hs
def BG (P:Program)(ot:FuncId->Option MO):Prop:=∀ f mk,ot f=some mk->∀ ds pre res,mk ds=some (pre,res)->pre ()->BF P f ds res
def ux (P:Program)(ct:Dk):Prop:=xR P ct.rd/\BD P ct.mu/\BI P ct.pt/\BE P ct.nw/\BG P ct.tk
def MR (P:Program)(n:Nat)(o:Oper)(rd:Rd Out):Prop:=
 ∀ (cx:Cx) (G:Gh) (g:Gm) (a:Act) (w:World) (ls:List Loc) (ws:List W),cx.n=n->av cx G g a w->rd.Runs g ls (.ws ws)->
  ∀ (K:Act->World->Prop) (Q:Exit->Act->World->Prop),(∀ a' w',d5 cx (bh g ws) a' w'->K a' w')->o.wp P a w K Q
def eK (P:Program)(n:Nat)(o:Oper)(g:Gm)(ls:List Loc)(ws:List W):Prop:=
 (jk o=none/\(QI P n o).Runs g ls (.ws ws))\/
 (∃ f ts args ds mk res,jk o=some (f,ts,args)/\(xN P n o.dst f ts args).Runs g ls (.call f ds mk)/\FI P f ds res/\ws=mk res)\/
 (∃ f ts args mk,jk o=some (f,ts,args)/\(∀ ds pre outs res,mk ds=some (pre,outs,res)->pre ()->EH P f ds outs res)/\(sB kY mT oJ (kz P) n o.dst (da P f) ts args mk dt).Runs g ls (.ws ws))\/
 ∃ rd,MR P n o rd/\rd.Runs g ls (.ws ws)
def Fc {α:Type}{slot:Option Nat}{a:A}{k' k:L->List Pl->Rd α}{x:α}{ls:List Loc}(hk:∀ l p ls,(k' l p).Runs g ls x->(k l p).Runs g ls x)(h:(Hz kY mT slot a k').Runs g ls x):(Hz kY mT slot a k).Runs g ls x:=by
 cases slot with
 | none=>
   cases a with
   |v y=>exact cP (fun ls h=>hk _ _ _ h) h
   |_=>exact h
 | some sz=>
   cases a with
   | vw r j ver lo m=>
     refine dD ?_ h;intro hv ls h
     revert h
     generalize hv.c=c;intro h;cases c with
     | own l=>cases l with
       |s sz' es=>exact cP (fun ls h=>kj id (fun ls h=>hk _ _ _ h) h) h
       |v x=>exact h
       |g=>exact h
       |m _ _=>exact h
     |ro l=>exact h
     |gone=>exact h
   | vn r j ver iv p lo m=>
     refine dD ?_ h;intro hv ls h
     revert h
     generalize hv.c=c;intro h;cases c with
     | own l=>cases l with
       |s sz' es=>exact cP (fun ls h=>kj id (fun ls h=>hk _ _ _ h) h) h
       |v x=>exact h
       |g=>exact h
       |m _ _=>exact h
     |ro l=>exact h
     |gone=>exact h
   |_=>exact h
def nQ {α:Type}:∀ {sl:List (Option Nat)} {as:List A} {k' k:ax->List Pl->Rd α} {x:α} {ls:List Loc},(∀ l p ls,(k' l p).Runs g ls x->(k l p).Runs g ls x)->(rY kY mT sl as k').Runs g ls x->(rY kY mT sl as k).Runs g ls x
 |[],[],k',k,x,ls,hk,h=>hk _ _ _ h
 |[],_::_,k',k,x,ls,hk,h=>h
 |_::_,[],k',k,x,ls,hk,h=>h
 |s::sl,a::as,k',k,x,ls,hk,h=>Fc (fun l p ls h=>nQ (fun _ _ ls h=>hk _ _ ls h) h) h
def Ff {ty ty':TypeId->Option TI}(ht:∀ t x,ty t=some x->ty' t=some x){α:Type}{t:TypeId}{o:Operand}{k' k:DV->List Pl->Rd α}{x:α}{ls:List Loc}(hk:∀ d p ls,(k' d p).Runs g ls x->(k d p).Runs g ls x) 
 (h:(Fe kY mT ty t o k').Runs g ls x):(Fe kY mT ty' t o k).Runs g ls x:=by
 unfold Fe at h ⊢;cases hti:ty t with
 |none=>simp[hti,Rd.Runs]at h
 | some ti=>
   simp only[hti]at h;simp only[ht t ti hti];refine oy ?_ h;intro v ls h;cases v with
   | one a=>
     simp only at h ⊢;split at h
     ·exact h.elim
     ·rename_i hb;rw[VK hb];refine nQ ?_ h;intro l p ls h;split at h
      ·exact hk _ _ _ h
      ·exact h.elim
   | agg as=>
     simp only at h ⊢;split at h
     ·rename_i hb;rw[VJ hb];exact nQ (fun l p ls h=>hk _ _ _ h) h
     ·exact h.elim
   |tup rs=>exact h
def vM {ty ty':TypeId->Option TI}(ht:∀ t x,ty t=some x->ty' t=some x){α:Type}:∀ {ts:List TypeId} {xs:List Operand} {k' k:List DV->List Pl->Rd α} {x:α} {ls:List Loc},(∀ d p ls,(k' d p).Runs g ls x->(k d p).Runs g ls x)->
 (xC kY mT ty ts xs k').Runs g ls x->(xC kY mT ty' ts xs k).Runs g ls x
 |[],[],k',k,x,ls,hk,h=>hk _ _ _ h
 |[],_::_,k',k,x,ls,hk,h=>h
 |_::_,[],k',k,x,ls,hk,h=>h
 |t::ts,o::xs,k',k,x,ls,hk,h=>Ff ht (fun d p ls h=>vM ht (fun _ _ ls h=>hk _ _ ls h) h) h
def Ba (hT:bG P T){o:Oper}{f:FuncId}{ts:Array TypeId}{args:Array Operand}{mk:MK}{ls:List Loc}{ws:List W}(hc:jk o=some (f,ts,args))(hmk:∀ ds pre outs res,mk ds=some (pre,outs,res)->pre ()->EH P f ds outs res) 
 (h:(sB am.pr am.ps am.up (lk T.tyL) n o.dst (lk T.fnL f).isSome ts args mk (fa am)).Runs g ls (.ws ws)):eK P n o g ls ws:=by
 refine .inr (.inr (.inl ⟨f,ts,args,mk,hc,hmk,?_⟩));rw[show am.pr=kY from rfl,show am.ps=mT from rfl,show am.up=oJ from rfl,show fa am=dt from by funext d res;exact jM d res]at h;unfold sB at h ⊢;split at h
 ·rename_i hb';have hb:da P f=true:=by
   rcases hT.fn f with e|⟨_,_,e⟩
   ·rw[e]at hb';cases hb'
   ·exact e
  rw[VJ hb];refine vM ?_ (fun _ _ _ h=>h) h;intro t x e;rcases hT.ty t with q|⟨y,q1,q2⟩
  ·rw[q]at e;cases e
  ·rw[q1]at e;cases e;exact q2
 ·exact h.elim
def Dd (hT:bG P T){ct:Dk}(hct:ux P ct){o:Oper}{f:FuncId}{ts:Array TypeId}{args:Array Operand}{ls:List Loc}{ws:List W}(hc:jk o=some (f,ts,args)) 
 (h:(Db T am ct n o.dst f ts args).Runs g ls (.ws ws)):eK P n o g ls ws:=by
 unfold Db at h;split at h
 ·rename_i hb';have hb:da P f=true:=by
   rcases hT.fn f with e|⟨_,_,e⟩
   ·rw[e]at hb';cases hb'
   ·exact e
  obtain⟨ds,ls1,h1,h2⟩:=ri hT h;simp only at h1;split at h1
  ·rename_i pre res he;obtain⟨hp,h1⟩:=h1;obtain⟨d,ls2,h3,h4⟩:=ET h1;simp only[Rd.Runs,Out.ws.injEq]at h3;obtain⟨rfl,rfl⟩:=h3;refine .inr (.inl ⟨f,ts,args,ds,dt d,res,hc,?_,hct.1 _ _ _ _ he hp,by rw[jM]⟩);unfold xN;rw[VJ hb];refine h2 _ _ (h4 _ _ ?_);simp[Rd.Runs]
  ·exact h1.elim
 ·exact h.elim
def pD {α:Type}{r:Nat}:∀ {m j:Nat} {k':List H->Rd α} {ls:List Loc} {x:α},(kW r j m k').Runs g ls x->zY g (fun k=>kW r j m k) k' ls x
 |0,_,_,ls,_,h=>⟨_,ls,h,fun _ _ hy=>hy⟩
 | m+1,j,_,_,_,h=>by
   obtain⟨hv,ls1,h1,h2⟩:=uk h;cases hc:hv.c with
   | own l=>
     simp only[hc]at h1;obtain⟨rec,ls2,h3,h4⟩:=pD h1;exact⟨.own l::rec,ls2,h3,fun k y hy=>h2 _ y (by simp only[hc];exact h4 _ y hy)⟩
   | ro l=>
     simp only[hc]at h1;obtain⟨rec,ls2,h3,h4⟩:=pD h1;exact⟨.ro l::rec,ls2,h3,fun k y hy=>h2 _ y (by simp only[hc];exact h4 _ y hy)⟩
   |gone=>simp[hc,Rd.Runs]at h1
def HB (hT:bG P T){α:Type}{t:TypeId}{o:Operand}{k':DV×List (Nat×Nat)×List kx->Rd α}{ls:List Loc}{x:α} 
 (h:(yI (fun {β}=>jO am (α:=β)) (lk T.tyL) (lk T.ptL) (fun t=>(lk T.pnL t).isSome) t o fun d s p=>k' (d,s,p)).Runs g ls x):zY g (fun k=>yI eL (kz P) (Eg P) (fun _=>true) t o fun d s p=>k (d,s,p)) k' ls x:=by
 unfold yI at h;rcases hT.ty t with e|⟨ti,e,hti⟩
 ·simp only[e]at h;split at h
  case isFalse=>exact h.elim
  rename_i hp;rcases hT.pn t with f|⟨_,_,f⟩
  ·simp[f]at hp
  obtain⟨v,ls1,h1,h2⟩:=yl h;cases v with
  | pt r j=>
    rcases hT.pt t with e3|⟨ti,e3,e4⟩
    ·simp[e3,Rd.Runs]at h1
    ·simp only[e3]at h1;split at h1
     ·rename_i hpos;obtain⟨hs,ls2,h3,h4⟩:=pD h1;exact⟨(_,_,_),ls2,h3,fun k y hy=>by unfold yI;simp only[f,if_true];exact h2 _ y (by simp only[e4,hpos,if_true];exact h4 _ y hy)⟩
     ·exact h1.elim
  |_=>exact h1.elim
 ·simp only[e]at h;obtain⟨v,ls1,h1,h2⟩:=B6 h;cases v with
  | one a=>
    simp only at h1;split at h1
    ·exact h1.elim
    ·rename_i hb;obtain⟨l,ls2,h3,h4⟩:=k7 h1;simp only at h3;split at h3
     ·refine⟨(_,_,_),ls2,h3,fun k y hy=>?_⟩;unfold yI;simp only[hti];refine h2 _ y ?_;simp only;rw[VK hb];exact h4 _ y hy
     ·exact h3.elim
  | agg as=>
    simp only at h1;split at h1
    ·rename_i hb;obtain⟨l,ls2,h3,h4⟩:=k7 h1;refine⟨(_,_,_),ls2,h3,fun k y hy=>?_⟩;unfold yI;simp only[hti];refine h2 _ y ?_;simp only;rw[VJ hb];exact h4 _ y hy
    ·exact h1.elim
  |tup rs=>exact h1.elim
def rZ (hT:bG P T){α:Type}:∀ {ts:List TypeId} {xs:List Operand} {k':List DV×List (Nat×Nat)×List kx->Rd α} {ls:List Loc} {x:α},
 (qH (fun {β}=>jO am (α:=β)) (lk T.tyL) (lk T.ptL) (fun t=>(lk T.pnL t).isSome) ts xs fun d s p=>k' (d,s,p)).Runs g ls x->zY g (fun k=>qH eL (kz P) (Eg P) (fun _=>true) ts xs fun d s p=>k (d,s,p)) k' ls x
 |[],[],_,ls,_,h=>⟨(_,_,_),ls,h,fun _ _ hy=>hy⟩
 |[],_::_,_,_,_,h=>h.elim
 |_::_,[],_,_,_,h=>h.elim
 | t::ts,o::xs,k',_,_,h=>by
   obtain⟨⟨d,s,p⟩,ls1,h1,h2⟩:=HB hT (k':=fun q=>qH (fun {β}=>jO am (α:=β)) (lk T.tyL) (lk T.ptL) (fun t=>(lk T.pnL t).isSome) ts xs fun ds srcs pts=>k' (q.1::ds,q.2.1++srcs,q.2.2++pts)) h;obtain⟨⟨ds,ss,ps⟩,ls2,h3,h4⟩:=rZ hT (k':=fun q=>k' (d::q.1,s++q.2.1,p++q.2.2)) h1;exact⟨(_,_,_),ls2,h3,fun k y hy=>h2 (fun q=>qH eL (kz P) (Eg P) (fun _=>true) ts xs fun ds srcs pts=>k (q.1::ds,q.2.1++srcs,q.2.2++pts)) y (h4 (fun q=>k (d::q.1,s++q.2.1,p++q.2.2)) y hy)⟩
def Bc (hT:bG P T){o:Oper}{f:FuncId}{ts:Array TypeId}{args:Array Operand}{mk:PK}{ls:List Loc}{ws:List W}(hc:jk o=some (f,ts,args))(hmk:∀ ds pre outs res,mk ds=some (pre,outs,res)->pre ()->xV P f ds outs res) 
 (h:(sD am.pr (fun {β}=>jO am (α:=β)) (lk T.tyL) (lk T.ptL) (fun t=>(lk T.pnL t).isSome) n o.dst (lk T.fnL f).isSome ts args mk (fa am)).Runs g ls (.ws ws)):eK P n o g ls ws:=by
 refine .inr (.inr (.inr ⟨sD kY eL (kz P) (Eg P) (fun _=>true) n o.dst (da P f) ts args mk dt,?_,?_⟩))
 ·intro cx G g a w ls ws hn hS h K Q hk;subst hn;exact zy (nq hc) hS hmk h hk
 ·rw[show am.pr=kY from rfl,show fa am=dt from by funext d res;exact jM d res]at h;unfold sD at h ⊢;split at h
  ·rename_i hb';have hb:da P f=true:=by
    rcases hT.fn f with e|⟨_,_,e⟩
    ·rw[e]at hb';cases hb'
    ·exact e
   rw[VJ hb];obtain⟨⟨ds,ss,ps⟩,ls1,h1,h2⟩:=rZ hT (k':=fun q=>match mk q.1 with
    | some (pre,outs,res)=>if mU q.2.2&&q.2.1.all (fun s=>q.2.2.all fun p=> !Az s p)then .req (kY pre) (Fu q.2.2 outs fun ws=>match o.dst with
       |some _=>fresh n o.dst fun d=>.ret (Out.ws (ws++dt d res))
       |none=>.ret (Out.ws ws))else .fail
    |none=>.fail) h
   exact h2 (fun q=>match mk q.1 with
    | some (pre,outs,res)=>if mU q.2.2&&q.2.1.all (fun s=>q.2.2.all fun p=> !Az s p)then .req (kY pre) (Fu q.2.2 outs fun ws=>match o.dst with
       |some _=>fresh n o.dst fun d=>.ret (Out.ws (ws++dt d res))
       |none=>.ret (Out.ws ws))else .fail
    |none=>.fail) _ h1
  ·exact h.elim
def Da (hT:bG P T){ct:Dk}{d:Option Tmp}{t:Tmp}{ts:Array TypeId}{args:Array Operand}{ls:List Loc}{out:Out} 
 (h:(zt T am ct n d t ts args).Runs g ls out):(zq P ct.rd n d t ts args).Runs g ls out:=by
 unfold zt at h;obtain⟨v,ls1,h1,h2⟩:=yl h;cases v with
 | fn f caps=>
   obtain⟨ds,ls2,h3,h4⟩:=ri hT h1;obtain⟨recs,ls3,h5,h6⟩:=kF h3;unfold zq;refine h2 _ _ (h4 _ _ (h6 _ _ ?_));cases hm:ct.rd f (ds++recs.map .ptr)with
   |none=>simp[hm,Rd.Runs]at h5
   | some pr=>
     obtain⟨pre,res⟩:=pr;simp only[hm]at h5 ⊢;obtain⟨hp,hb,h5⟩:=h5;refine⟨⟨hp,?_⟩,?_⟩
     ·rcases hT.fn f with e|⟨_,_,e⟩
      ·have hb:(lk T.fnL f).isSome=true:=hb;rw[e]at hb;cases hb
      ·exact e
     ·rw[show fa am=dt from by funext d res;exact jM d res]at h5;exact h5
 |_=>exact h1.elim
def A9 (hT:bG P T){d:Option Tmp}{t:Tmp}{ts:Array TypeId}{args:Array Operand}{pt:FuncId->Option PK}{ls:List Loc}{out:Out} 
 (h:(oK kY (fun {β}=>jO am (α:=β)) (lk T.tyL) (lk T.ptL) (fun t=>(lk T.pnL t).isSome) n d (fun f=>(lk T.fnL f).isSome) t ts args pt (fa am)).Runs g ls out):
 (oK kY eL (kz P) (Eg P) (fun _=>true) n d (da P) t ts args pt dt).Runs g ls out:=by
 unfold oK at h ⊢;refine de ?_ h;intro v ls h;cases v with
 | fn f caps=>
   simp only at h ⊢;cases hm:pt f with
   |none=>simp[hm,Rd.Runs]at h
   | some mk=>
     simp only[hm]at h ⊢;rcases hT.fn f with e|⟨_,e1,e2⟩
     ·simp[e,Rd.Runs]at h
     rw[VJ e2];rw[VJ (by rw[e1];rfl)]at h;rw[show fa am=dt from by funext d res;exact jM d res]at h;obtain⟨⟨ds,ss,ps⟩,ls1,h1,h2⟩:=rZ hT (k':=fun q=>uV caps fun ds2 pts2=>A3 kY n d (q.1++ds2) q.2.1 (q.2.2++pts2) mk dt) h;exact h2 (fun q=>uV caps fun ds2 pts2=>A3 kY n d (q.1++ds2) q.2.1 (q.2.2++pts2) mk dt) _ h1
 |_=>exact h.elim
def Dc (P:Program)(ct:Dk)(n:Nat)(d:Option Tmp)(t:Tmp)(ts:Array TypeId)(args:Array Operand):Rd Out:=
 fF (.tmp t) fun
  | .fn f _=>match ct.pt f with
    |some _=>oK kY eL (kz P) (Eg P) (fun _=>true) n d (da P) t ts args ct.pt dt
    |none=>zq P ct.rd n d t ts args
  |_=>.fail
def Be (hT:bG P T){ct:Dk}(hct:ux P ct){o:Oper}{t:Tmp}{ts:Array TypeId}{args:Array Operand}{ls:List Loc}{ws:List W}(ho:o.op=.call {callee:=.value (.tmp t),args:=args,argTypes:=ts}) 
 (h:(zA T am ct n o.dst t ts args).Runs g ls (.ws ws)):eK P n o g ls ws:=by
 refine .inr (.inr (.inr ⟨Dc P ct n o.dst t ts args,?_,?_⟩))
 ·intro cx G g a w ls ws hn hS h K Q hk;subst hn;unfold Dc at h;obtain⟨x0,ls1,hx,h⟩:=bu hS h;cases x0 with
  | fn f caps=>
    simp only at h;split at h
    ·exact wV ho hS (fun f mk e=>hct.2.2.1 f mk e) h hk
    ·exact zu (fun f ds pre res e hp=>hct.1 f ds pre res e hp) ho hS h hk
  |_=>exact h.elim
 ·unfold zA at h;unfold Dc;refine de ?_ h;intro v ls h;cases v with
  | fn f caps=>
    simp only at h ⊢;cases hm:ct.pt f with
    |some mk=>simp only[hm]at h ⊢;exact A9 hT h
    |none=>simp only[hm]at h ⊢;exact Da hT h
  |_=>exact h.elim
def Bb (hT:bG P T){o:Oper}{c:Call}{f:FuncId}{mk:NK}{ls:List Loc}{ws:List W}(e1:o.op=.call c)(e2:c.callee=.value (.func f))(hmk:∀ ds pre hs,mk ds=some (pre,hs)->pre ()->EI P f ds hs) 
 (h:(sC kY n o.dst (lk T.fnL f).isSome c.args mk).Runs g ls (.ws ws)):eK P n o g ls ws:=by
 refine .inr (.inr (.inr ⟨sC kY n o.dst (da P f) c.args mk,?_,?_⟩))
 ·intro cx G g a w ls ws hn hS h K Q hk;subst hn;obtain⟨cal,as,ats⟩:=c;simp only at e2;subst e2;exact zx e1 hS hmk h hk
 ·unfold sC at h ⊢;split at h
  ·rename_i hb';have hb:da P f=true:=by
    rcases hT.fn f with e|⟨_,_,e⟩
    ·rw[e]at hb';cases hb'
    ·exact e
   rw[VJ hb];exact h
  ·exact h.elim
def zH (hT:bG P T){o:Oper}{t:TypeId}{x:Operand}{lo hi mx:Option Operand}{ls:List Loc}{ws:List W}(ho:o.op=.slice t x lo hi mx)(h:(wv T am n o.dst t x lo hi mx).Runs g ls (.ws ws)):eK P n o g ls ws:=by
 refine .inr (.inr (.inr ⟨fF x fun
  | .vn _ _ _ _ _ _ _=>qS kY (fun lo i=>lo+i.toNat) (fun h l=>h.toNat-l.toNat) (fun n=>n) (wQ P) n o.dst t x lo hi mx
  |_=>sK P n o.dst t x lo hi mx,?_,?_⟩))
 ·intro cx G g a w ls ws hn hS h K Q hk;subst hn;obtain⟨x0,ls1,_,h⟩:=bu hS h;cases x0 with
  |vn r j ver iv p lo m=>exact w5 ho hS h hk
  |_=>exact qT ho hS h hk
 ·unfold wv at h;refine de ?_ h;intro v ls h;cases v with
  | vn r j ver iv p lo m=>
    simp only at h ⊢;unfold qS at h ⊢;rcases hT.el t with e|⟨y,e,e2⟩
    ·rw[e]at h;exact h.elim
    ·rw[e]at h;rw[e2];exact h
  |_=>exact Dh hT h
def lZ {w:World}{op:BinOp}{t:TypeId}{x y:Operand}{p q:Option Addr}{k l k' l':Nat}:(eqGuard op t x y (.slice p k l) (.slice q k' l')).run P w=.ok () w:=by
 cases op<;>simp[eqGuard]
def ue {w:World}{t e:TypeId}(hu:P.underlying t=some (.slice e))(p:Option Addr)(k l:Nat):
 (binOp .eql t (.slice p k l) (.slice none 0 0)).run P w=.ok (.bool p.isNone) w/\(binOp .neq t (.slice p k l) (.slice none 0 0)).run P w=.ok (.bool (!p.isNone)) w:=by
 have q1:∀ d:Nat,(Op.equalIn (d+1) t (.slice p k l) (.slice none 0 0)).run P w=.ok p.isNone w:=fun d=>by
  cases p<;>simp[Op.equalIn,run_underlying hu]
 have q:(Op.equal t (.slice p k l) (.slice none 0 0)).run P w=.ok p.isNone w:=q1 9999
 constructor<;>simp[binOp,q]
def xO {o:Oper}{op:BinOp}{t t':TypeId}{x:Operand}{b nb:Bool}{ls:List Loc}{ws:List W}(ho:o.op=.binOp op t x (.const (.slice none 0 0)) t'){e:TypeId}(hu:P.underlying t=some (.slice e)) 
 (hop:(op=.eql/\b=true/\nb=false)\/(op=.neq/\b=false/\nb=true)) (h:(Bn am n o.dst b nb x).Runs g ls (.ws ws)):eK P n o g ls ws:=by
 refine .inr (.inr (.inr ⟨Bn am n o.dst b nb x,?_,h⟩));intro cx G g a w ls ws hn hS h K Q hk;subst hn;unfold Bn at h;obtain⟨x0,ls1,hx,h⟩:=bu hS h;have hy':a.eval (.const (.slice none 0 0))=.slice none 0 0:=rfl;have key:∀ (v:Bool) (p:Option Addr) (k l:Nat),a.eval x=.slice p k l->(op=.eql->v=p.isNone)->(op=.neq->v= !p.isNone)->(bF cx.n o.dst (.k v)).Runs g ls1 (.ws ws)->o.wp P a w K Q:=by
  intro v p k l hx' q1 q2 h;refine aT hS h (v:=.bool v) (by simp[cK,gq]) ?_ hk;unfold execOp;rcases hop with⟨rfl,_⟩|⟨rfl,_⟩
  ·rw[q1 rfl];simp[ho,hx',hy',lZ,(ue hu p k l).1]
  ·rw[q2 rfl];simp[ho,hx',hy',lZ,(ue hu p k l).2]
 cases x0 with
 | nl=>
   refine key b none 0 0 hx ?_ ?_ h<;>rintro rfl<;>rcases hop with⟨q,rfl,_⟩|⟨q,rfl,_⟩<;>first|rfl|(cases q)
 | v y=>
   split at h
   ·rename_i e1;cases e1
   ·rename_i e1;cases e1;refine key b none 0 0 hx ?_ ?_ h<;>rintro rfl<;>rcases hop with⟨q,rfl,_⟩|⟨q,rfl,_⟩<;>first|rfl|(cases q)
   all_goals first|exact h.elim|(rename_i e1;cases e1)
 | vw r j ver lo m=>
   simp only at h;obtain⟨hv,ls2,q1,_,h⟩:=bD h;split at h
   case h_2=>exact h.elim
   rename_i sz es hc;split at h
   case isFalse=>exact h.elim
   rename_i hver;simp only[beq_iff_eq]at hver;simp only[Rd.Runs]at h;obtain⟨hm,h⟩:=h;have hm:0<m:=hm;obtain⟨h2,f1,f2,f3⟩:=hx;rw[q1]at f1;cases f1;obtain⟨f4,base,len,cap,base',cap',g1,g2,g3,g4,g5,g6⟩:=f3 hver sz es hc;rcases g6 with⟨_,c0⟩|⟨b1,off,off',r1,r2,_⟩;omega
   ·refine aT hS h (v:=.bool nb) (by simp[cK,gq]) ?_ hk;unfold execOp;rcases hop with⟨rfl,_,rfl⟩|⟨rfl,_,rfl⟩
    ·simp[ho,g2,r2,hy',lZ,(ue hu _ _ _).1]
    ·simp[ho,g2,r2,hy',lZ,(ue hu _ _ _).2]
 |_=>exact h.elim
def zJ (hT:bG P T){o:Oper}{t:TypeId}{x y:Operand}{ls:List Loc}{ws:List W}(ho:o.op=.store t x y)(hd:o.dst=none)(h:(ww T am t x y).Runs g ls (.ws ws)):eK P n o g ls ws:=by
 refine .inr (.inr (.inr ⟨ev y fun
  | .one (.vn _ _ _ _ _ _ _)=>qU kY mT (fun es lo m=>(es.drop lo).take m) oJ (kz P) t x y
  |_=>sL P t x y,?_,?_⟩))
 ·intro cx G g a w ls ws hn hS h K Q hk;subst hn;obtain⟨x0,ls1,_,h⟩:=dh hS h;split at h
  ·exact w9 ho hd hS h hk
  ·exact qV ho hd hS h hk
 ·unfold ww at h;refine oy ?_ h;intro v ls h;split at h
  ·try simp only
   unfold qU at h ⊢;rcases hT.ty t with e|⟨z,e,e2⟩
   ·rw[e]at h;exact h.elim
   ·rw[e]at h;rw[e2];exact h
  ·rename_i hne
   first
    |exact wy hT h
    | (split
       ·exact absurd rfl (hne _ _ _ _ _ _ _)
       ·exact wy hT h)
def wY (hT:bG P T){o:Oper}{t:TypeId}{r:Option Operand}{ls:List Loc}{ws:List W}(ho:o.op=.makeMap t r)(h:(lN (lk T.mpL) n o.dst t r).Runs g ls (.ws ws)):eK P n o g ls ws:=by
 refine .inr (.inr (.inr ⟨lN (yE P) n o.dst t r,?_,?_⟩))
 ·intro cx G g a w ls ws hn hS h K Q hk;subst hn;exact wq ho hS h hk
 ·unfold lN at h ⊢;rcases hT.mp t with e|⟨x,e,e2⟩
  ·cases r<;>simp[e,Rd.Runs]at h
  ·rw[e]at h;rw[e2];exact h
def Bo (hT:bG P T){o:Oper}{t:TypeId}{x:Operand}{ls:List Loc}{ws:List W}(ho:o.op=.range t x)(h:(sJ (lk T.mpL) n o.dst t x).Runs g ls (.ws ws)):eK P n o g ls ws:=by
 refine .inr (.inr (.inr ⟨sJ (yE P) n o.dst t x,?_,?_⟩))
 ·intro cx G g a w ls ws hn hS h K Q hk;subst hn;exact zF ho hS h hk
 ·unfold sJ at h ⊢;rcases hT.mp t with e|⟨y,e,e2⟩
  ·simp[e,Rd.Runs]at h
  ·rw[e]at h;rw[e2];exact h
def Bg {o:Oper}{x:Operand}{ls:List Loc}{ws:List W}(ho:o.op=.entry x)(h:(wm n o.dst x).Runs g ls (.ws ws)):eK P n o g ls ws:=by
 refine .inr (.inr (.inr ⟨wm n o.dst x,?_,h⟩));intro cx G g a w ls ws hn hS h K Q hk;subst hn;exact zB ho hS h hk
def Bh (hT:bG P T){o:Oper}{t:TypeId}{x:Operand}{f:Nat}{ls:List Loc}{ws:List W}(ho:o.op=.field t x f)(h:(sG (lk T.cmL) n o.dst t x f).Runs g ls (.ws ws)):eK P n o g ls ws:=by
 refine .inr (.inr (.inr ⟨sG (Lj P) n o.dst t x f,?_,?_⟩))
 ·intro cx G g a w ls ws hn hS h K Q hk;subst hn;exact zC ho hS h hk
 ·unfold sG at h ⊢;rcases hT.cm t with e|⟨y,e,e2⟩
  ·rw[e]at h;exact h.elim
  ·rw[e]at h;rw[e2];exact h
def zD (hT:bG P T){o:Oper}{t:TypeId}{x i:Operand}{k:Bool}{ls:List Loc}{ws:List W}(ho:o.op=.lookup t x i k)(h:(oL mgbI iF (lk T.mpL) n o.dst t x i k).Runs g ls (.ws ws)):eK P n o g ls ws:=by
 refine .inr (.inr (.inr ⟨oL mgbI iF (yE P) n o.dst t x i k,?_,?_⟩))
 ·intro cx G g a w ls ws hn hS h K Q hk;subst hn;exact wW ho hS h hk
 ·unfold oL at h ⊢;rcases hT.mp t with e|⟨y,e,e2⟩
  ·cases k<;>simp[e,Rd.Runs]at h
  ·rw[e]at h;rw[e2];exact h
def zE (hT:bG P T){o:Oper}{t:TypeId}{m k v:Operand}{ls:List Loc}{ws:List W}(ho:o.op=.mapUpdate t m k v)(hd:o.dst=none)(h:(oM lO (lk T.mpL) t m k v).Runs g ls (.ws ws)):eK P n o g ls ws:=by
 refine .inr (.inr (.inr ⟨oM lO (yE P) t m k v,?_,?_⟩))
 ·intro cx G g a w ls ws hn hS h K Q hk;subst hn;exact wZ ho hd hS h hk
 ·unfold oM at h ⊢;rcases hT.mp t with e|⟨y,e,e2⟩
  ·simp[e,Rd.Runs]at h
  ·rw[e]at h;rw[e2];exact h
def wt (hT:bG P T){o:Oper}{t:TypeId}{m k:Operand}{ls:List Loc}{ws:List W}(ho:o.op=.mapEntry t m k)(h:(jN mgbI iF lO (lk T.mpL) n o.dst t m k).Runs g ls (.ws ws)):eK P n o g ls ws:=by
 refine .inr (.inr (.inr ⟨jN mgbI iF lO (yE P) n o.dst t m k,?_,?_⟩))
 ·intro cx G g a w ls ws hn hS h K Q hk;subst hn;exact ua ho hS h hk
 ·unfold jN at h ⊢;rcases hT.mp t with e|⟨y,e,e2⟩
  ·simp[e,Rd.Runs]at h
  ·rw[e]at h;rw[e2];exact h
def sF (hT:bG P T){o:Oper}{t:TypeId}{m s x:Operand}{ls:List Loc}{ws:List W}(ho:o.op=.entryStore t m s x)(hd:o.dst=none)(h:(gj lO (lk T.mpL) t m s x).Runs g ls (.ws ws)):eK P n o g ls ws:=by
 refine .inr (.inr (.inr ⟨gj lO (yE P) t m s x,?_,?_⟩))
 ·intro cx G g a w ls ws hn hS h K Q hk;subst hn;exact qR ho hd hS h hk
 ·unfold gj at h ⊢;rcases hT.mp t with e|⟨y,e,e2⟩
  ·simp[e,Rd.Runs]at h
  ·rw[e]at h;rw[e2];exact h
def Fp {tk:∀ {β:Type},List (Option Nat)->List A->(List (L×Option Nat)->List (Nat×Nat)->Rd β)->Rd β}(hT:bG P T)(htk:∀ {β:Type}, @tk β= @cR β){α:Type}{t:TypeId}{x:Operand}{k' k:DV->List (Nat×Nat)->Rd α}{y:α}{ls:List Loc} 
 (hk:∀ d s ls,(k' d s).Runs g ls y->(k d s).Runs g ls y) (h:(Fo tk (lk T.tyL) t x k').Runs g ls y):(Fo cR (kz P) t x k).Runs g ls y:=by
 unfold Fo at h ⊢;rcases hT.ty t with e|⟨ti,e,e2⟩
 ·rw[e]at h;exact h.elim
 ·rw[e]at h;rw[e2];refine oy ?_ h;intro v ls h;cases v with
  | one a=>
    simp only[htk]at h ⊢;split at h
    ·exact h.elim
    ·rename_i hag;rw[VK hag];refine hD ?_ h;intro lts src ls h;split at h
     ·exact hk _ _ _ h
     ·exact h.elim
  | agg as=>
    simp only[htk]at h ⊢;split at h
    ·rename_i hag;rw[VJ hag];refine hD ?_ h;intro lts src ls h;exact hk _ _ _ h
    ·exact h.elim
  |tup rs=>exact h.elim
def v9 {tk:∀ {β:Type},List (Option Nat)->List A->(List (L×Option Nat)->List (Nat×Nat)->Rd β)->Rd β}(hT:bG P T)(htk:∀ {β:Type}, @tk β= @cR β){α:Type}:∀ {ts:List TypeId} {xs:List Operand} {k' k:List DV->List (Nat×Nat)->Rd α} {y:α} {ls:List Loc},
 (∀ d s ls,(k' d s).Runs g ls y->(k d s).Runs g ls y)->(v8 tk (lk T.tyL) ts xs k').Runs g ls y->(v8 cR (kz P) ts xs k).Runs g ls y
 |[],[],k',k,y,ls,hk,h=>hk _ _ _ h
 |[],_::_,k',k,y,ls,hk,h=>h.elim
 |_::_,[],k',k,y,ls,hk,h=>h.elim
 | t::ts,x::xs,k',k,y,ls,hk,h=>by
   simp only[v8]at h ⊢;refine Fp hT htk ?_ h;intro d s ls h;exact v9 hT htk (fun d s ls h=>hk _ _ _ h) h
def Bd (hT:bG P T){o:Oper}{c:Call}{f:FuncId}{mk:MO}{ls:List Loc}{ws:List W}(e1:o.op=.call c)(e2:c.callee=.value (.func f))(hmk:∀ ds pre res,mk ds=some (pre,res)->pre ()->BF P f ds res) 
 (h:(sE (fun {β}=>iX am (α:=β)) (lk T.tyL) kY n o.dst (lk T.fnL f).isSome c.argTypes c.args mk (fa am)).Runs g ls (.ws ws)):eK P n o g ls ws:=by
 refine .inr (.inr (.inr ⟨sE cR (kz P) kY n o.dst (da P f) c.argTypes c.args mk dt,?_,?_⟩))
 ·intro cx G g a w ls ws hn hS h K Q hk;subst hn;obtain⟨cal,as,ats⟩:=c;simp only at e2;subst e2;exact zz e1 hS hmk h hk
 ·unfold sE at h ⊢;rcases hT.fn f with e|⟨_,e,e3⟩
  ·rw[e]at h;exact h.elim
  ·rw[VJ e3];rw[VJ (by rw[e];rfl)]at h;rw[show fa am=dt from by funext d res;exact jM d res]at h;exact v9 hT (by intro β;funext sl as k;exact iY sl as k) (fun _ _ _ h=>h) h
def Hl (b:Bool):mmO am b=rW b:=by
 funext vs
 match vs with
 |[]=>rfl
 |[x]=>cases x<;>rfl
 | [x,y]=>
   cases x<;>cases y<;>first|rfl|skip
   rename_i k a k' b';simp only[mmO,rW];by_cases e:k=k'
   ·subst e;simp only[beq_self_eq_true,if_true];rfl
   ·simp[e]
 |x::y::z::vs=>cases x<;>cases y<;>rfl
def IB (hT:bG P T){ct:Dk}(hct:ux P ct){o:Oper}{ls:List Loc}{ws:List W}(h:(oV T am ct n o).Runs g ls (.ws ws)):eK P n o g ls ws:=by
 by_cases hc:∃ c f,o.op=.call c/\c.callee=.value (.func f)
 ·obtain⟨c,f,e1,e2⟩:=hc;unfold oV at h;simp only[e1,e2]at h;cases hnw:ct.nw f with
  | some mk=>
    simp only[hnw]at h;exact Bb hT e1 e2 (hct.2.2.2.1 f mk hnw) h
  |none=>
  simp only[hnw]at h;cases htk:ct.tk f with
  | some mk=>
    simp only[htk]at h;exact Bd hT e1 e2 (hct.2.2.2.2 f mk htk) h
  |none=>
  simp only[htk]at h;cases hpt:ct.pt f with
  | some mk=>
    simp only[hpt]at h;exact Bc hT (by unfold jk;simp only[e1,e2]) (hct.2.2.1 f mk hpt) h
  |none=>
  simp only[hpt]at h;cases hmu:ct.mu f with
  | none=>
    simp only[hmu]at h;exact Dd hT hct (by unfold jk;simp only[e1,e2]) h
  | some mk=>
    simp only[hmu]at h;exact Ba hT (by unfold jk;simp only[e1,e2]) (hct.2.1 f mk hmu) h
 by_cases hc2:∃ c t,o.op=.call c/\c.callee=.value (.tmp t)
 ·obtain⟨c,t,e1,e2⟩:=hc2;unfold oV at h;simp only[e1,e2]at h;exact Be hT hct (by rw[e1];obtain⟨cal,as,ats⟩:=c;simp only at e2;rw[e2]) h
 by_cases hsl:∃ t x lo hi mx,o.op=.slice t x lo hi mx
 ·obtain⟨t,x,lo,hi,mx,e1⟩:=hsl;unfold oV at h;simp only[e1]at h;exact zH hT e1 h
 by_cases hst:∃ t x y,o.op=.store t x y
 ·obtain⟨t,x,y,e1⟩:=hst;unfold oV at h;simp only[e1]at h;split at h
  ·rename_i hd;exact zJ hT e1 hd h
  ·exact h.elim
 by_cases hnx:∃ op t x t' q,o.op=.binOp op t x (.const (.slice none 0 0)) t'/\lk T.elL t=some q
 ·obtain⟨op,t,x,t',q,e1,e2⟩:=hnx;unfold oV at h;simp only[e1,zm,e2]at h;rcases hT.el t with e|⟨y,e,e3⟩
  ·rw[e]at e2;cases e2
  obtain⟨e0,hu⟩:∃ e0,P.underlying t=some (.slice e0):=by
   unfold wQ at e3;split at e3
   ·rename_i e0 hu;exact⟨e0,hu⟩
   ·cases e3
  split at h
  ·exact xO e1 hu (.inl ⟨rfl,rfl,rfl⟩) h
  ·exact xO e1 hu (.inr ⟨rfl,rfl,rfl⟩) h
  ·exact h.elim
 have hnl:∀ op t x y t',o.op=.binOp op t x y t'->(zm T am n o.dst op t x y).Runs g ls (.ws ws)->(zk T am n o.dst op t x y).Runs g ls (.ws ws):=by
  intro op t x y t' e1 h;unfold zm at h;split at h
  ·rename_i q e2;exact absurd ⟨op,t,x,t',q,e1,e2⟩ hnx
  ·exact h
 by_cases hmk:∃ t r,o.op=.makeMap t r
 ·obtain⟨t,r,e1⟩:=hmk;unfold oV at h;simp only[e1]at h;exact wY hT e1 h
 by_cases hfi:∃ t x f,o.op=.field t x f
 ·obtain⟨t,x,f,e1⟩:=hfi;unfold oV at h;simp only[e1]at h;exact Bh hT e1 h
 by_cases hrg:∃ t x,o.op=.range t x
 ·obtain⟨t,x,e1⟩:=hrg;unfold oV at h;simp only[e1]at h;exact Bo hT e1 h
 by_cases hen:∃ x,o.op=.entry x
 ·obtain⟨x,e1⟩:=hen;unfold oV at h;simp only[e1]at h;exact Bg e1 h
 by_cases hlo:∃ t x i k,o.op=.lookup t x i k
 ·obtain⟨t,x,i,k,e1⟩:=hlo;unfold oV at h;simp only[e1]at h;exact zD hT e1 h
 by_cases hme:∃ t m k,o.op=.mapEntry t m k
 ·obtain⟨t,m,k,e1⟩:=hme;unfold oV at h;simp only[e1]at h;exact wt hT e1 h
 by_cases hes:∃ t m s x,o.op=.entryStore t m s x
 ·obtain⟨t,m,s,x,e1⟩:=hes;unfold oV at h;simp only[e1]at h;split at h
  ·rename_i hd;exact sF hT e1 hd h
  ·exact h.elim
 by_cases hup:∃ t m k v,o.op=.mapUpdate t m k v
 ·obtain⟨t,m,k,v,e1⟩:=hup;unfold oV at h;simp only[e1]at h;split at h
  ·rename_i hd;exact zE hT e1 hd h
  ·exact h.elim
 ·refine .inl ⟨?_,?_⟩
  ·unfold jk;split
   ·rename_i c e1;split
    ·rename_i f e2;exact absurd ⟨c,f,e1,e2⟩ hc
    ·rfl
   ·rfl
  ·unfold oV at h;unfold QI;generalize hop:o.op=op at h hc hc2 hmk hfi hrg hen hlo hme hes hup hsl hst ⊢;cases op with
   |makeMap t r=>exact absurd ⟨t,r,rfl⟩ hmk
   |field t x f=>exact absurd ⟨t,x,f,rfl⟩ hfi
   |range t x=>exact absurd ⟨t,x,rfl⟩ hrg
   |entry x=>exact absurd ⟨x,rfl⟩ hen
   |lookup t x i k=>exact absurd ⟨t,x,i,k,rfl⟩ hlo
   |mapUpdate t m k v=>exact absurd ⟨t,m,k,v,rfl⟩ hup
   |mapEntry t m k=>exact absurd ⟨t,m,k,rfl⟩ hme
   |entryStore t m s x=>exact absurd ⟨t,m,s,x,rfl⟩ hes
   | call c=>
     simp only at h ⊢;cases hcal:c.callee with
     | value x=>
       cases x with
       |func f=>exact absurd ⟨c,f,rfl,hcal⟩ hc
       |tmp t=>exact absurd ⟨c,t,rfl,hcal⟩ hc2
       |_=>simp only[hcal]at h;exact h.elim
     | builtin b=>
       simp only[hcal]at h ⊢;cases b with
       | len=>
         simp only at h ⊢;split at h
         ·rename_i x t e1 e2;simp only[e1,e2];rcases hT.sl t with e|⟨_,e,e3⟩
          ·simp[e,Rd.Runs]at h
          simp only[e,e3,Ve,if_true]at h ⊢;refine de ?_ h;intro a ls h;exact Hf h
         ·exact h.elim
       | append=>
         simp only at h ⊢;split at h
         ·rename_i e1 e2;simp only[e1,e2];exact zh hT h
         ·exact h.elim
       |min=>simp only[Hl]at h ⊢;exact h
       |max=>simp only[Hl]at h ⊢;exact h
       |_=>exact h
     |_=>simp only[hcal]at h;exact h.elim
   |box t x=>exact Iy hT h
   |alloc t=>exact C6 hT h
   |build t parts=>exact C9 hT h
   |fieldAddr s x f=>exact wn hT h
   |buildSlice t len parts=>exact t9 hT h
   |load t x=>exact Fw hT h
   |store t x y=>exact absurd ⟨t,x,y,rfl⟩ hst
   |indexAddr t x i=>exact wo hT h
   |binOp op t x y t'=>exact Fv hT (hnl op t x y t' hop h)
   |unOp op t x=>exact K1 h
   |makeSlice t l c=>exact Fx hT h
   |slice t x lo hi mx=>exact absurd ⟨t,x,lo,hi,mx,rfl⟩ hsl
   |assign x=>exact h
   |pick c a b=>exact h
   | convert s t x=>
     simp only at h ⊢;refine pv ?_ h;intro _ a ls h;rcases hT.it s with e|⟨k1,e,e3⟩
     ·simp[e,Rd.Runs]at h
     rcases hT.it t with f|⟨k2,f,f3⟩
     ·simp[e,f,Rd.Runs]at h
     simp only[e,e3,f,f3]at h ⊢;exact h
   |_=>exact h
end
end Go.V
namespace Go.V
def F9 (b:Bool)(A B:Unit->Prop):Prop:=(Vf (motive:=fun _=>Unit->Prop) B A b:Unit->Prop) ()
def cN {b:Bool}{A B:Unit->Prop}(h1:b=true->A ())(h2:b=false->B ()):(Vf (motive:=fun _=>Unit->Prop) B A b:Unit->Prop) ():=by
 cases b with
 |true=>exact h1 rfl
 |false=>exact h2 rfl
def Rd.wpU {α:Type}(g:Gm):Rd α->List Loc->(List Loc->α->Prop)->Prop
 | .fail,_,_=>False
 | .ret a,t,K=>K t a
 | .get l k,t,K=>(k (g l)).wpU g (l::t) K
 | .req c k,t,K=>c/\k.wpU g t K
 | .br b k1 k2,t,K=>F9 b (fun _=>k1.wpU g t K) (fun _=>k2.wpU g t K)
def Rd.wpU_runs {α:Type}{g:Gm}:∀ {rd:Rd α} {t:List Loc} {K:List Loc->α->Prop},rd.wpU g t K->∃ ls x t',rd.Runs g ls x/\K t' x/\(∀ l∈ls,l∈t')/\(∀ l∈t,l∈t')
 | .fail,_,_,h=>h.elim
 | .ret b,t,_,h=>⟨[],b,t,⟨rfl,rfl⟩,h,by simp,fun _ h=>h⟩
 | .get l k,t,_,h=>by
   obtain⟨ls,x,t',h1,h2,h3,h4⟩:=Rd.wpU_runs (rd:=k (g l)) h;refine⟨l::ls,x,t',⟨ls,rfl,h1⟩,h2,?_,fun y hy=>h4 y (by simp[hy])⟩;intro y hy;rcases Zj.1 hy with rfl|hy;exact h4 _ (by simp);exact h3 _ hy
 | .req c k,t,_,h=>by
   obtain⟨ls,x,t',h1,h2,h3⟩:=Rd.wpU_runs (rd:=k) h.2;exact⟨ls,x,t',⟨h.1,h1⟩,h2,h3⟩
 | .br b k1 k2,t,_,h=>by
   cases b with
   |true=>obtain⟨ls,x,t',h1,h2⟩:=Rd.wpU_runs (rd:=k1) h;exact⟨ls,x,t',.inl ⟨rfl,h1⟩,h2⟩
   |false=>obtain⟨ls,x,t',h1,h2⟩:=Rd.wpU_runs (rd:=k2) h;exact⟨ls,x,t',.inr ⟨rfl,h1⟩,h2⟩
def Rd.Runs_congr {α:Type}{g g':Gm}:∀ {rd:Rd α} {ls:List Loc} {x:α},rd.Runs g ls x->(∀ l∈ls,g' l=g l)->rd.Runs g' ls x
 | .fail,_,_,h,_=>h
 | .ret b,_,_,h,_=>h
 | .get l k,_,_,h,hg=>by
   obtain⟨ls',e,h⟩:=h;subst e;refine⟨ls',rfl,?_⟩;rw[hg l (by simp)];exact Rd.Runs_congr h (fun y hy=>hg y (by simp[hy]))
 | .req c k,_,_,h,hg=>⟨h.1,Rd.Runs_congr h.2 hg⟩
 | .br b k1 k2,_,_,h,hg=>by
   rcases h with⟨e,h⟩|⟨e,h⟩;exact .inl ⟨e,Rd.Runs_congr h hg⟩;exact .inr ⟨e,Rd.Runs_congr h hg⟩
def Eu (n:Nat)(o:Oper)(ws:List W):Prop:=
 match o.dst with
 |some d=>d<n/\ws=[.reg d (.one (.v undef))]
 |none=>ws=[]
def xT (P:Program)(n:Nat)(all:Array Oper)(o:Oper)(g:Gm)(t:List Loc)(ws:List W):Prop:=
 ∃ ls b,(vq all o).Runs g ls b/\(∀ l∈ls,l∈t)/\
  ((b=true/\∃ ls2,eK P n o g ls2 ws/\∀ l∈ls2,l∈t)\/(b=false/\Eu n o ws))
def eK.congr {P:Program}{n:Nat}{o:Oper}{g g':Gm}{ls:List Loc}{ws:List W}(h:eK P n o g ls ws)(hg:∀ l∈ls,g' l=g l):eK P n o g' ls ws:=by
 rcases h with⟨h1,h2⟩|⟨f,ts,args,ds,mk,res,h1,h2,h3,h4⟩|⟨f,ts,args,mk,h1,h2,h3⟩|⟨rd,h1,h2⟩;exact .inl ⟨h1,Rd.Runs_congr h2 hg⟩;exact .inr (.inl ⟨f,ts,args,ds,mk,res,h1,Rd.Runs_congr h2 hg,h3,h4⟩);exact .inr (.inr (.inl ⟨f,ts,args,mk,h1,h2,Rd.Runs_congr h3 hg⟩));exact .inr (.inr (.inr ⟨rd,h1,Rd.Runs_congr h2 hg⟩))
def xT.congr {P:Program}{n:Nat}{all:Array Oper}{o:Oper}{g g':Gm}{t:List Loc}{ws:List W}(h:xT P n all o g t ws)(hg:∀ l∈t,g' l=g l):xT P n all o g' t ws:=by
 obtain⟨ls,b,h1,h2,h3⟩:=h;refine⟨ls,b,Rd.Runs_congr h1 (fun l hl=>hg l (h2 l hl)),h2,?_⟩;rcases h3 with⟨e,ls2,h4,h5⟩|h3;exact .inl ⟨e,ls2,h4.congr (fun l hl=>hg l (h5 l hl)),h5⟩;exact .inr h3
section
variable {P: Program} {cx: Cx} {a: Act} {w: World}
def eK.sound {o:Oper}{g:Gm}{ls:List Loc}{ws:List W}(h:eK P cx.n o g ls ws)(hS:d5 cx g a w){K:Act->World->Prop}{Q:Exit->Act->World->Prop} 
 (hk:∀ a' w',d5 cx (bh g ws) a' w'->K a' w'):o.wp P a w K Q:=by
 obtain⟨G,hS⟩:=hS;rcases h with⟨_,h2⟩|⟨f,ts,args,ds,mk,res,h1,h2,h3,rfl⟩|⟨f,ts,args,mk,h1,h2,h3⟩|⟨rd,h1,h2⟩;exact Fz hS h2 hk;exact Bf (nq h1) hS h2 h3 hk;exact zw (nq h1) hS h3 h2 hk;exact h1 cx G g a w _ _ rfl hS h2 K Q hk
def xT.sound {all:Array Oper}{o:Oper}{g:Gm}{t:List Loc}{ws:List W}(h:xT P cx.n all o g t ws)(hS:d5 cx g a w){K:Act->World->Prop}{Q:Exit->Act->World->Prop} 
 (hk:∀ a' w',d5 cx (bh g ws) a' w'->K a' w'):
 if Region.wanted o (yielded all a.tmps)then o.wp P a w K Q\/(o.asks P a w/\LetsOut Q)else K (a.put o.dst undef) w:=by
 obtain⟨ls,b,h1,_,h3⟩:=h;obtain⟨G,hG⟩:=id hS;have hw:=yr hG h1;rcases h3 with⟨rfl,ls2,h4,_⟩|⟨rfl,h3⟩
 ·rw[VJ hw];exact .inl (h4.sound hS hk)
 ·rw[VK (by rw[hw];simp)];unfold Eu at h3;cases hd:o.dst with
  | none=>
    simp only[hd]at h3;subst h3;exact hk _ _ (by simpa[Act.put,bh]using hS)
  | some d=>
    simp only[hd]at h3;obtain⟨hlt,rfl⟩:=h3;refine hk _ _ ⟨G,?_⟩;exact hG.put hlt (by simp[cK,gq])
end
inductive WK where
 |reg (d:Nat)
 |leaf (r j:Nat)
 |root (r:Nat)
def keyOf:W->WK
 | .reg d _=>.reg d
 | .leaf r j _=>.leaf r j
 | .root r _ _=>.root r
abbrev Tr :=List (List Loc×List WK)
def B9 (all:Array Oper)(o:Oper)(σ:VS)(K:VS->List Loc->Bool->Prop):Prop:=
 match o.guard with
 |none=>K σ [] true
 | some (j,want)=>match all[j]? with
   | some o'=>match o'.dst with
     | some d=>match get σ (.reg d)with
       |some (.r (.one (.v (.bool b))))=>F9 b (fun _=>K (.reg d (.k true)::σ) [.reg d] (true==want)) (fun _=>K (.reg d (.k false)::σ) [.reg d] (false==want))
       |some (.r (.one (.v (.tuple _))))=>K σ [.reg d] false
       |_=>False
     |none=>False
   |none=>False
section
variable (T: wE) (O: EJ) (ct: Dk) (n: Nat)
def xQ (all:Array Oper):List Oper->VS->Tr->(VS->Tr->Prop)->Prop
 |[],σ,acc,K=>K σ acc
 | o::rest,σ,acc,K=>B9 all o σ fun σ t b=>match b with
   | true=>(oV T O ct n o).wpU (get σ) t fun t out=>match out with
     | .ws ws=>xQ all rest (push σ ws) ((t,ws.map keyOf)::acc) K
     | .call _ _ _=>False
   | false=>match o.dst with
     |some d=>if d<n then xQ all rest (.reg d (.one (.v undef))::σ) ((t,[.reg d])::acc) K else False
     |none=>xQ all rest σ ((t,[])::acc) K
end
inductive FB (P:Program)(n:Nat)(all:Array Oper):List Oper->Gm->List (List Loc×List W)->Gm->Prop where
 |nil (g:Gm):FB P n all [] g [] g
 |cons {o:Oper} {rest:List Oper} {g g':Gm} {t:List Loc} {ws:List W} {xs:List (List Loc×List W)}:xT P n all o g t ws->FB P n all rest (bh g ws) xs g'->FB P n all (o::rest) g ((t,ws)::xs) g'
def Ax {σ:VS}{d:Nat}{x:R}(h:get σ (.reg d)=some (.r x)):get (.reg d x::σ)=get σ:=by
 funext l
 simp only[get,W.app];split
 ·rename_i e;rw[e,h]
 ·rfl
def Ay {all:Array Oper}{o:Oper}{σ:VS}{K:VS->List Loc->Bool->Prop}(h:B9 all o σ K):
 ∃ σ1 t b,get σ1=get σ/\(vq all o).Runs (get σ) t b/\K σ1 t b:=by
 unfold B9 at h;unfold vq;cases hg:o.guard with
 |none=>simp only[hg]at h;exact⟨σ,[],true,rfl,⟨rfl,rfl⟩,h⟩
 | some jw=>
   obtain⟨j,want⟩:=jw;simp only[hg]at h ⊢;cases ho:all[j]? with
   |none=>simp[ho]at h
   | some o'=>
     simp only[ho,YD]at h ⊢;cases hd:o'.dst with
     |none=>simp[hd]at h
     | some d=>
       simp only[hd]at h ⊢;cases hx:get σ (.reg d)with
       |none=>simp[hx]at h
       | some v=>
         cases v with
         |h x=>simp[hx]at h
         |m a b=>simp[hx]at h
         | r x=>cases x with
           |agg as=>simp[hx]at h
           |tup rs=>simp[hx]at h
           | one a=>cases a with
             | v y=>cases y with
               | bool b=>
                 simp only[hx]at h;cases b with
                 |true=>exact⟨_,_,_,Ax hx,by simp[Bw,rd,Rd.Runs,hx],h⟩
                 |false=>exact⟨_,_,_,Ax hx,by simp[Bw,rd,Rd.Runs,hx],h⟩
               | tuple vs=>
                 simp only[hx]at h;exact⟨σ,_,_,rfl,by simp[Bw,rd,Rd.Runs,hx],h⟩
               |_=>simp[hx]at h
             |_=>simp[hx]at h
def oN {P:Program}{T:wE}(hT:bG P T){ct:Dk}(hct:ux P ct){n:Nat}{all:Array Oper}:∀ (ops:List Oper) (σ:VS) (acc:Tr) (K:VS->Tr->Prop),xQ T am ct n all ops σ acc K->
 ∃ xs σ',FB P n all ops (get σ) xs (get σ')/\K σ' ((xs.map fun x=>(x.1,x.2.map keyOf)).reverse++acc)
 |[],σ,acc,K,h=>⟨[],σ,.nil _,h⟩
 | o::rest,σ,acc,K,h=>by
   simp only[xQ]at h;obtain⟨σ1,t,b,e1,h1,h2⟩:=Ay h;cases b with
   | true=>
     simp only at h2;obtain⟨ls2,out,t2,k1,k2,k3,k4⟩:=Rd.wpU_runs h2;cases out with
     |call f ds mk=>exact k2.elim
     | ws ws=>
       simp only at k2;obtain⟨xs,σ',m1,m2⟩:=oN hT hct rest _ _ _ k2;rw[Aw]at m1;rw[e1]at m1 k1;refine⟨(t2,ws)::xs,σ',.cons ⟨t,true,h1,fun l hl=>k4 l hl,.inl ⟨rfl,ls2,IB hT hct k1,k3⟩⟩ m1,?_⟩
       simpa using m2
   | false=>
     simp only at h2;cases hd:o.dst with
     | none=>
       simp only[hd]at h2;obtain⟨xs,σ',m1,m2⟩:=oN hT hct rest _ _ _ h2;rw[e1]at m1;refine⟨(t,[])::xs,σ',.cons ⟨t,false,h1,fun l hl=>hl,.inr ⟨rfl,by simp[Eu,hd]⟩⟩ m1,?_⟩
       simpa using m2
     | some d=>
       simp only[hd]at h2;split at h2
       ·rename_i hlt;obtain⟨xs,σ',m1,m2⟩:=oN hT hct rest _ _ _ h2;have e2:get (W.reg d (.one (.v undef))::σ1)=bh (get σ) [W.reg d (.one (.v undef))]:=by
         simp only[get,bh,e1]
        rw[e2]at m1;refine⟨(t,[.reg d (.one (.v undef))])::xs,σ',.cons ⟨t,false,h1,fun l hl=>hl,.inr ⟨rfl,by simp[Eu,hd,hlt]⟩⟩ m1,?_⟩
        simpa[keyOf]using m2
       ·exact h2.elim
def FB.text {P:Program}{cx:Cx}{all:Array Oper}{Q:Exit->Act->World->Prop}:∀ {ops:List Oper} {g g':Gm} {xs:List (List Loc×List W)} {a:Act} {w:World},FB P cx.n all ops g xs g'->d5 cx g a w->
 (∀ a' w',d5 cx g' a' w'->Q .normal a' w')->wpList P all Q ops a w
 |_,_,_,_,a,w,.nil g,hS,hk=>hk a w hS
 | _,_,_,_,a,w,.cons he hr,hS,hk=>by
   simp only[wpList];exact he.sound hS (fun a' w' hs=>hr.text hs hk)
end Go.V
namespace Go.V
def WK.hits:WK->Loc->Bool
 | .reg d,.reg d'=>d.beq d'
 | .leaf r j,.leaf r' j'=>r.beq r'&&j.beq j'
 | .root r,.leaf r' _=>r.beq r'
 | .root r,.meta_ r'=>r.beq r'
 |_,_=>false
def WK.clash:WK->WK->Bool
 | .reg d,.reg d'=>d.beq d'
 | .leaf r j,.leaf r' j'=>r.beq r'&&j.beq j'
 | .root r,.leaf r' _=>r.beq r'
 | .leaf r _,.root r'=>r.beq r'
 | .root r,.root r'=>r.beq r'
 |_,_=>false
def Gg {k k':WK}{l:Loc}(h:k.hits l=true)(h':k'.hits l=true):k.clash k'=true:=by
 cases k<;>cases k'<;>cases l<;>simp_all [WK.hits,WK.clash]
def rh {g:Gm}{x:W}{l:Loc}(h:(keyOf x).hits l=false):x.app g l=g l:=by
 cases x<;>cases l<;>simp only[keyOf,WK.hits,W.app]at h ⊢ <;>first|rfl|(rw[VK];intro e;cases e;simp at h)|(rw[VK];intro e;subst e;simp at h)
def Dn {g g':Gm}{x:W}{l:Loc}(h:(keyOf x).hits l=true):x.app g l=x.app g' l:=by
 cases x<;>cases l<;>simp_all [keyOf,WK.hits,W.app]
def dF (ws:List W)(l:Loc):Bool:=ws.any fun x=>(keyOf x).hits l
def pj {l:Loc}:∀ {ws:List W} {g:Gm},dF ws l=false->bh g ws l=g l
 |[],_,_=>rfl
 | x::ws,g,h=>by
   simp only[dF,Vg,Vh]at h;simp only[bh];rw[pj (ws:=ws) h.2,rh h.1]
def xW {l:Loc}:∀ {ws:List W} {g g':Gm},g l=g' l->bh g ws l=bh g' ws l
 |[],_,_,h=>h
 | x::ws,g,g',h=>by
   simp only[bh];refine xW (ws:=ws) ?_;cases hx:(keyOf x).hits l with
   |true=>exact Dn hx
   |false=>rw[rh hx,rh hx,h]
def Ab {l:Loc}:∀ {ws:List W} {g g':Gm},dF ws l=true->bh g ws l=bh g' ws l
 |[],_,_,h=>by simp[dF]at h
 | x::ws,g,g',h=>by
   simp only[dF,Vg,Yc]at h;simp only[bh];cases hx:(keyOf x).hits l with
   |true=>exact xW (Dn hx)
   | false=>
     rw[hx]at h;exact Ab (h.resolve_left (by simp))
def sel (cZ:Nat->List W)(p:Nat->Bool)(m:Nat):List W:=((Ze m).filter p).flatMap cZ
def ou (cZ:Nat->List W)(l:Loc):∀ (is:List Nat) (g:Gm),bh g (is.flatMap cZ) l=bh g ((is.filter fun i=>dF (cZ i) l).flatMap cZ) l
 |[],g=>rfl
 | i::is,g=>by
   simp only[Y6,List.filter_cons,cE];cases h:dF (cZ i) l with
   |true=>simp only[if_true,Y6,cE];exact ou cZ l is _
   | false=>
     simp only[Yj,if_false];rw[<-ou cZ l is g];exact xW (pj h)
def sg {cZ:Nat->List W}{p q:Nat->Bool}{m:Nat}{l:Loc}{g:Gm}(h:∀ i,i<m->dF (cZ i) l=true->p i=q i):bh g (sel cZ p m) l=bh g (sel cZ q m) l:=by
 unfold sel;rw[ou,ou cZ l ((Ze m).filter q)];have e:((Ze m).filter p).filter (fun i=>dF (cZ i) l)=((Ze m).filter q).filter (fun i=>dF (cZ i) l):=by
  rw[Wr,Wr];refine XM ?_;intro i hi;rw[Z2]at hi;cases ht:dF (cZ i) l with
  |true=>simp[h i hi ht]
  |false=>simp
 rw[e]
def H8 {cZ:Nat->List W}{q:Nat->Bool}{m j:Nat}{l:Loc}{g g':Gm}(hj:j<m)(hq:q j=true)(ht:dF (cZ j) l=true)(h:∀ i,j<i->i<m->dF (cZ i) l=true->q i=false):
 bh g (sel cZ q m) l=bh g' (cZ j) l:=by
 have e:bh g (sel cZ q m) l=bh g (sel cZ (fun i=>q i&&decide (i<=j)) m) l:=by
  refine sg ?_;intro i hi hti;rcases Z7 j i with c|c
  ·rw[h i c hi hti];rfl
  ·simp[c]
 rw[e];have hs:(Ze m).filter (fun i=>q i&&decide (i<=j))=((Ze j).filter q)++[j]:=by
  have:Ze m=Ze j++[j]++(Ze (m- (j+1))).map (fun x=>(j+1)+x):=by
   have e1:Ze (j+1+(m- (j+1)))=Ze (j+1)++(Ze (m- (j+1))).map (fun x=>(j+1)+x):=Wc;rw[show j+1+(m- (j+1))=m from by omega]at e1;rw[e1,Vi]
  rw[this,Ws,Ws];have e2:(List.map (fun x=>j+1+x) (Ze (m- (j+1)))).filter (fun i=>q i&&decide (i<=j))=[]:=by
   rw[XN];intro a ha;obtain⟨x,_,rfl⟩:=ZW.1 ha;simp;intro _;omega
  have e3:(Ze j).filter (fun i=>q i&&decide (i<=j))=(Ze j).filter q:=by
   refine XM ?_;intro i hi;rw[Z2]at hi;simp[Nat.le_of_lt hi]
  rw[e2,e3];simp[hq]
 unfold sel;rw[hs,Wt,cE];simp only[Y6,List.flatMap_nil,Z4];exact Ab ht
def oF (o:Oper):List Nat:=o.after.toList.filterMap fun e=>if Vj .any e then some e.on else none
def vB (ms:List Nat):List Nat->Nat
 |[]=>0
 |p::ps=>(1<<<p)|||(ms.getD p 0|||vB ms ps)
def AK:List (List Nat)->List Nat->List Nat
 |[],acc=>acc
 |ds::rest,acc=>AK rest (acc++[vB acc ds])
def oE (x y:List Loc×List WK):Bool:=
 x.2.any fun k=>y.1.any (fun l=>k.hits l)||y.2.any (fun k'=>k.clash k')
def nS (x y:List Loc×List WK):Bool:=y.2.any fun k=>x.1.any fun l=>k.hits l
def Ee (mask:Nat)(y:List Loc×List WK):Nat->Tr->Bool
 |_,[]=>true
 |i,x::xs=>(mask.testBit i|| !(oE x y||nS x y))&&Ee mask y (i+1) xs
def vK:List Nat->Tr->Tr->Bool
 |m::ms,xs,y::ys=>Ee m y 0 xs&&vK ms (xs++[y]) ys
 |[],_,[]=>true
 |_,_,_=>false
def yH:Nat->List (List Nat)->Bool
 |_,[]=>true
 |i,ds::rest=>ds.all (fun p=>p.blt i)&&yH (i+1) rest
def ay (ops:Array Oper)(tr:Tr):Bool:=
 let ps:=ops.toList.map oF
 yH 0 ps&&vK (AK ps []) [] tr
end Go.V
namespace Go.V
def FB.at {P:Program}{n:Nat}{all:Array Oper}:∀ {ops:List Oper} {g g':Gm} {xs:List (List Loc×List W)},FB P n all ops g xs g'->
 xs.length=ops.length/\g'=bh g (xs.flatMap (·.2))/\∀ j o,ops[j]?=some o->∃ t ws,xs[j]?=some (t,ws)/\xT P n all o (bh g ((xs.take j).flatMap (·.2))) t ws
 |_,_,_,_,.nil g=>⟨rfl,rfl,fun j o h=>by simp at h⟩
 | _,_,_,_,.cons (t:=t) (ws:=ws) he hr=>by
   obtain⟨h1,h2,h3⟩:=FB.at hr;refine⟨by simp[h1],by rw[h2];simp[cE],?_⟩;intro j o h;cases j with
   |zero=>simp at h;subst h;exact⟨t,ws,rfl,by simpa[bh]using he⟩
   | succ j=>
     simp at h;obtain⟨t',ws',e1,e2⟩:=h3 j o h;exact⟨t',ws',by simpa using e1,by simpa[cE]using e2⟩
def sq (xs:List (List Loc×List W)):∀ j,j<=xs.length->(xs.take j).flatMap (·.2)=(Ze j).flatMap fun i=>(xs.getD i ([],[])).2
 |0,_=>rfl
 | j+1,h=>by
   rw[List.take_succ,Vi,Wt,Wt,sq xs j Uc]
   congr 1
   rw[Zt Uc];simp[Zt (show j<xs.length by omega)]
def tZ {m j:Nat}(h:j<=m):(Ze m).filter (fun i=>decide (i<j))=Ze j:=by
 have e1:Ze (j+(m-j))=Ze j++(Ze (m-j)).map (fun x=>j+x):=Wc;rw[show j+(m-j)=m from by omega]at e1;rw[e1,Ws];have e2:((Ze (m-j)).map (fun x=>j+x)).filter (fun i=>decide (i<j))=[]:=by
  rw[XN];intro a ha;obtain⟨x,_,rfl⟩:=ZW.1 ha;simp
 rw[e2,Z4];exact Vk.2 (fun a ha=>by simpa using ha)
def vC {S:Nat->Prop}{pr:Nat->List Nat}(hcl:∀ k,S k->∀ p∈pr k,S p):∀ (rest:List (List Nat)) (acc:List Nat),
 (∀ k ds,rest[k]?=some ds->pr (acc.length+k)=ds)->
 (∀ j,j<acc.length->∀ i,(acc.getD j 0).testBit i=true->(∀ p∈pr j,S p)->S i)->
 ∀ j,j<(AK rest acc).length->∀ i,((AK rest acc).getD j 0).testBit i=true->(∀ p∈pr j,S p)->S i
 |[],acc,_,h=>h
 | ds::rest,acc,hp,h=>by
   simp only[AK];refine vC hcl rest _ ?_ ?_
   ·intro k ds' hk;have:=hp (k+1) ds' (by simpa using hk);simp only[Zh,Zr,Zs];rw[<-this];congr 1;omega
   ·intro j hj i hi hS;simp only[Zh,Zr,Zs]at hj;rcases Z7 j acc.length with c|c
    ·refine h j c i ?_ hS;rw[Zp,ZN c]at hi;rw[Zp];exact hi
    ·have hj':j=acc.length:=by omega
     subst hj';have e0:=hp 0 ds rfl;rw[Yi]at e0;rw[Zp,List.getElem?_append_right (Zf _)]at hi;simp only[Nat.sub_self,List.getElem?_cons_zero,Z6]at hi;rw[e0]at hS;have key:∀ (ps:List Nat),(∀ p∈ps,S p)->(vB acc ps).testBit i=true->S i:=by
      intro ps
      induction ps with
      |nil=>intro _ hb;simp[vB]at hb
      | cons p ps ih=>
        intro hps hb;simp only[vB,Nat.testBit_or,Yc]at hb;rcases hb with hb|hb|hb
        ·rw[Nat.one_shiftLeft,Nat.testBit_two_pow]at hb;simp at hb;subst hb;exact hps _ (by simp)
        ·rcases Z7 p acc.length with c2|c2;exact h p c2 i hb (hcl p (hps p (by simp)))
         ·rw[Zp,Z8 c2]at hb;simp at hb
        ·exact ih (fun q hq=>hps q (by simp[hq])) hb
     exact key ds hS hi
def vJ {mask:Nat}{y:List Loc×List WK}:∀ {xs:Tr} {i0:Nat},Ee mask y i0 xs=true->∀ i x,xs[i]?=some x->mask.testBit (i0+i)=true\/(oE x y=false/\nS x y=false)
 |[],_,_,i,x,hx=>by simp at hx
 | x0::xs,i0,h,i,x,hx=>by
   simp only[Ee,Zb,Yc,YK,Vh]at h;cases i with
   |zero=>simp at hx;subst hx;exact h.1
   | succ i=>
     simp at hx;have:=vJ h.2 i x hx;rw[show i0+1+i=i0+(i+1)from by omega]at this;exact this
def tc:∀ {ms:List Nat} {xs ys:Tr},vK ms xs ys=true->∀ j y,ys[j]?=some y->∃ m,ms[j]?=some m/\∀ i x,(xs++ys)[i]?=some x->i<xs.length+j->m.testBit i=true\/(oE x y=false/\nS x y=false)
 |[],_,[],_,j,y,hy=>by simp at hy
 |_::_,_,[],_,j,y,hy=>by simp at hy
 |[],_,_::_,h,_,_,_=>by simp[vK]at h
 | m::ms,xs,y0::ys,h,j,y,hy=>by
   simp only[vK,Zb]at h;cases j with
   | zero=>
     simp at hy;subst hy;refine⟨m,rfl,?_⟩;intro i x hx hi;rw[ZN Uc]at hx;have:=vJ h.1 i x hx
     rwa [ZP]at this
   | succ j=>
     simp at hy;obtain⟨m',e1,e2⟩:=tc h.2 j y hy;refine⟨m',by simpa using e1,?_⟩;intro i x hx hi;refine e2 i x (by simpa using hx) (by simp;omega)
def ta:∀ {pss:List (List Nat)} {i0:Nat},yH i0 pss=true->∀ i ps,pss[i]?=some ps->∀ p∈ps,p<i0+i
 |[],_,_,i,ps,h=>by simp at h
 | q::pss,i0,h,i,ps,hi=>by
   simp only[yH,Zb,ZV]at h;cases i with
   | zero=>
     simp at hi;subst hi;intro p hp;have:=h.1 p hp;have h2:p+1<=i0:=by simpa[Wu]using this
     omega
   | succ i=>
     simp at hi;intro p hp;have:=ta h.2 i ps hi p hp;omega
end Go.V
namespace Go.V
def oC (listed:Array Bool)(i:Nat):Bool:=listed.getD i false
def qv {listed:Array Bool}{i k:Nat}(hi:i<listed.size):oC (listed.setIfInBounds i true) k=(oC listed k||decide (k=i)):=by
 unfold oC;by_cases e:k=i
 ·subst e;simp[hi]
 ·rw[getD_set_ne false (Ne.symm e)];simp[e]
def nT (ops:Array Oper)(k:Nat):List Nat:=match ops[k]? with
 |some o=>oF o
 |none=>[]
def sZ {o:Oper}{p:Nat}:p∈oF o↔∃ e∈o.after,Vj .any e=true/\e.on=p:=by
 unfold oF;simp only[List.mem_filterMap,Array.mem_toList_iff]
 constructor
 ·rintro⟨e,he,h⟩;split at h
  ·rename_i hb;cases h;exact⟨e,he,hb,rfl⟩
  ·cases h
 ·rintro⟨e,he,hb,rfl⟩;exact⟨e,he,by simp[hb]⟩
def oa {ws:List W}{l:Loc}:dF ws l=true↔∃ k∈ws.map keyOf,k.hits l=true:=by
 unfold dF;simp only[XO,ZW]
 constructor
 ·rintro⟨x,h1,h2⟩;exact⟨_,⟨x,h1,rfl⟩,h2⟩
 ·rintro⟨k,⟨x,h1,rfl⟩,h2⟩;exact⟨x,h1,h2⟩
section
variable {P: Program} {cx: Cx} {ops: Array Oper} {Q: Exit -> Act -> World -> Prop} {g0 gm: Gm} {xs: List (List Loc × List W)}
def CB {tr:Tr}(hok:ay ops tr=true){j p:Nat}(hp:p∈nT ops j):p<j:=by
 simp only[ay,Zb]at hok;unfold nT at hp;cases ho:ops[j]? with
 |none=>simp[ho]at hp
 | some o=>
   simp only[ho]at hp;have:=ta hok.1 j (oF o) (by simp[ho]) p hp;omega
def vL {tr:Tr}(hok:ay ops tr=true){S:Nat->Prop}(hcl:∀ k,S k->∀ p∈nT ops k,S p){i j:Nat}{x y:List Loc×List WK}(hij:i<j)(hx:tr[i]?=some x)(hy:tr[j]?=some y) 
 (hS:∀ p∈nT ops j,S p) (hbad:oE x y=true\/nS x y=true):S i:=by
 simp only[ay,Zb]at hok;obtain⟨m,e1,e2⟩:=tc hok.2 j y hy;have e3:=e2 i x (by simpa using hx) (by simpa using hij);rcases e3 with e3|⟨e3,e4⟩
 ·refine vC (S:=S) (pr:=nT ops) hcl (ops.toList.map oF) [] ?_ ?_ j (ZB.1 e1).1 i ?_ hS
  ·intro k ds hk;simp only[ZC,Zy]at hk;obtain⟨o,ho,rfl⟩:=hk;rw[ZX]at ho;simp[nT,ho]
  ·intro j hj;simp at hj
  ·rw[Zp,e1];exact e3
 ·rcases hbad with h|h
  ·rw[e3]at h;cases h
  ·rw[e4]at h;cases h
def BZ (hrun:FB P cx.n ops ops.toList g0 xs gm)(hok:ay ops (xs.map fun x=>(x.1,x.2.map keyOf))=true)(hQ:∀ a' w',d5 cx gm a' w'->Q .normal a' w'):
 ∀ (fuel:Nat) (listed:Array Bool) (a:Act) (w:World),listed.size=ops.size->((Ze ops.size).filter fun i=> !oC listed i).length<=fuel->
  (∀ k,oC listed k=true->∀ p∈nT ops k,oC listed p=true)->
  d5 cx (bh g0 (sel (fun i=>(xs.getD i ([],[])).2) (oC listed) ops.size)) a w->wpAny P .any ops Q fuel listed a w:=by
 obtain⟨hlen,hgm,hat⟩:=FB.at hrun;have hlen':xs.length=ops.size:=by simpa using hlen
 let cZ:Nat->List W:=fun i=>(xs.getD i ([],[])).2
 have hall:gm=bh g0 (sel cZ (fun _=>true) ops.size):=by
  have:=sq xs xs.length (Zf _);rw[List.take_length]at this;rw[hgm,this,hlen'];unfold sel;rw[Vk.2 (fun _ _=>rfl)]
 have hex:∀ j,j<ops.size->∃ o t,ops[j]?=some o/\xs[j]?=some (t,cZ j)/\xT P cx.n ops o (bh g0 (sel cZ (fun i=>decide (i<j)) ops.size)) t (cZ j):=by
  intro j hj;have ho:ops.toList[j]?=some ops[j]:=by simp[hj]
  obtain⟨t,ws,e1,e2⟩:=hat j _ ho;have hw:cZ j=ws:=by simp[cZ,Zp,e1]
  refine⟨ops[j],t,by simp[hj],by rw[hw];exact e1,?_⟩;rw[hw];have e3:=sq xs j Uc;unfold sel;rw[tZ Uc];rw[e3]at e2;exact e2
 have full:∀ (listed:Array Bool) (a:Act) (w:World),(∀ j,j<ops.size->oC listed j=true)->d5 cx (bh g0 (sel cZ (oC listed) ops.size)) a w->Q .normal a w:=by
  intro listed a w hl hS;refine hQ a w ?_;rw[hall];have:sel cZ (oC listed) ops.size=sel cZ (fun _=>true) ops.size:=by
   unfold sel
   congr 1
   exact XM (fun i hi=>hl i (Z2.1 hi))
  rw[<-this];exact hS
 have noready:∀ (listed:Array Bool),listed.size=ops.size->Vl .any ops listed=[]->∀ j,j<ops.size->oC listed j=true:=by
  intro listed hsz hr j
  induction j using Nat.strongRecOn with
  | _ j ih=>
    intro hj;cases hl:oC listed j with
    |true=>rfl
    | false=>
      exfalso;have:j∈Vl .any ops listed:=by
       rw[mem_ready];refine⟨?_,ops[j],by simp[hj],?_⟩
       ·unfold oC at hl;simp only[Yw]at hl ⊢;rw[Xv Uc]at hl ⊢
        simpa using hl
       ·intro e he hb;have hp:e.on∈nT ops j:=by
         simp only[nT,hj,Xv];exact sZ.2 ⟨e,he,hb,rfl⟩
        have hlt:=CB hok hp;exact ih e.on hlt Uc
      rw[hr]at this;cases this
 intro fuel
 induction fuel with
 | zero=>
   intro listed a w hsz hf hcl hS;have hnil:(Ze ops.size).filter (fun i=> !oC listed i)=[]:=Yz Uc;have hl:∀ j,j<ops.size->oC listed j=true:=by
    intro j hj;have:=XN.1 hnil j (Z2.2 hj)
    simpa using this
   refine⟨?_,full listed a w hl hS⟩;rw[List.eq_nil_iff_forall_not_mem];intro j hj;obtain⟨h1,o,ho,_⟩:=mem_ready.1 hj;have hjlt:=(Zz.1 ho).1;have:=hl j hjlt;unfold oC at this;simp only[Yw]at h1 this;rw[Xv Uc]at h1 this;simp only[Z6]at h1 this;rw[h1]at this;cases this
 | succ fuel ih=>
   intro listed a w hsz hf hcl hS;refine⟨fun hr=>full listed a w (noready listed hsz hr) hS,?_⟩;intro i hi;obtain⟨h1,o,ho,hpre⟩:=mem_ready.1 hi;have hilt:=(Zz.1 ho).1;have hni:oC listed i=false:=by
    unfold oC;simp only[Yw]at h1 ⊢;rw[Xv Uc]at h1 ⊢
    simpa using h1
   have hpi:∀ p∈nT ops i,oC listed p=true:=by
    intro p hp;simp only[nT,ho]at hp;obtain⟨e,he,hb,rfl⟩:=sZ.1 hp;exact hpre e he hb
   obtain⟨o',t,ho',hxs,hexec⟩:=hex i hilt;rw[ho]at ho';cases ho';have htr:∀ k t',xs[k]?=some (t',cZ k)->(xs.map fun x=>(x.1,x.2.map keyOf))[k]?=some (t',(cZ k).map keyOf):=by
    intro k t' h;simp[h]
   have later:∀ k,i<k->k<ops.size->∀ l,dF (cZ k) l=true->(dF (cZ i) l=true\/l∈t)->oC listed k=false:=by
    intro k hik hk l hl hc;cases hlk:oC listed k with
    |false=>rfl
    | true=>
      exfalso;obtain⟨o2,t2,ho2,hxs2,_⟩:=hex k hk;have:=vL hok (S:=fun k=>oC listed k=true) hcl hik (htr i t hxs) (htr k t2 hxs2) (hcl k hlk) (by
       obtain⟨q,hq1,hq2⟩:=oa.1 hl;rcases hc with hc|hc
       ·obtain⟨q',hq3,hq4⟩:=oa.1 hc;refine .inl ?_;simp only[oE,XO,Yc];exact⟨q',hq3,.inr ⟨q,hq1,Gg hq4 hq2⟩⟩
       ·refine .inr ?_;simp only[nS,XO];exact⟨q,hq1,l,hc,hq2⟩)
      rw[hni]at this;cases this
   have hexec':xT P cx.n ops o (bh g0 (sel cZ (oC listed) ops.size)) t (cZ i):=by
    refine hexec.congr ?_;intro l hl;refine sg ?_;intro k hk htk;rcases Nat.lt_trichotomy k i with c|c|c
    ·simp only[c,decide_true];obtain⟨o2,t2,ho2,hxs2,_⟩:=hex k hk;refine vL hok (S:=fun k=>oC listed k=true) hcl c (htr k t2 hxs2) (htr i t hxs) hpi (.inl ?_);obtain⟨q,hq1,hq2⟩:=oa.1 htk;simp only[oE,XO,Yc];exact⟨q,hq1,.inl ⟨l,hl,hq2⟩⟩
    ·subst c;simp[hni]
    ·rw[later k c hk l htk (.inr hl)];simp;omega
   show wpOp P ops Q i _ a w;unfold wpOp;simp only[ho];refine hexec'.sound hS ?_;intro a' w' hs';refine ih _ a' w' (by simp[hsz]) ?_ ?_ ?_
   ·have e:(Ze ops.size).filter (fun k=> !oC (listed.setIfInBounds i true) k)=((Ze ops.size).filter (fun k=> !oC listed k)).filter (fun k=>decide (k≠i)):=by
     rw[Wr];refine XM ?_;intro k _;rw[qv Uc];by_cases hki:k=i<;>simp[hki]
    have hlt:(((Ze ops.size).filter (fun k=> !oC listed k)).filter (fun k=>decide (k≠i))).length<((Ze ops.size).filter (fun k=> !oC listed k)).length:=by
     rw[List.length_filter_lt_length_iff_exists];exact⟨i,List.mem_filter.2 ⟨Z2.2 hilt,by simp[hni]⟩,by simp⟩
    rw[e];omega
   ·intro k hk p hp;rw[qv Uc]at hk ⊢;rw[Yc]at hk;rcases hk with hk|hk
    ·rw[hcl k hk p hp];rfl
    ·simp at hk;subst hk;rw[hpi p hp];rfl
   ·have e:bh (bh g0 (sel cZ (oC listed) ops.size)) (cZ i)=bh g0 (sel cZ (oC (listed.setIfInBounds i true)) ops.size):=by
     funext l
     cases ht:dF (cZ i) l with
     | true=>
       symm
       refine H8 hilt ?_ ht ?_
       ·rw[qv Uc];simp
       ·intro k hik hk htk;rw[qv Uc,later k hik hk l htk (.inl ht)];simp;omega
     | false=>
       rw[pj ht];refine sg ?_;intro k hk htk;rw[qv Uc];have:k≠i:=fun e=>by rw[e,ht]at htk;cases htk
       simp[this]
    rw[<-e];exact hs'
def AU {id:Nat}{a:Act}{w:World}(hm:P.follows .mixedOrders=true)(hrun:FB P cx.n ops ops.toList g0 xs gm)(hok:ay ops (xs.map fun x=>(x.1,x.2.map keyOf))=true) 
 (hQ:∀ a' w',d5 cx gm a' w'->Q .normal a' w') (hS:∀ a w,d5 cx g0 a w->d5 cx g0 a {w with drawn:=w.drawn+1}) (hs:d5 cx g0 a w):(Vm id ops true).wp P Q a w:=by
 refine wp_region_any hm ?_;refine BZ hrun hok hQ ops.size _ a _ (by simp) ?_ ?_ ?_;exact Nat.le_trans (List.length_filter_le _ _) (by simp)
 ·intro k hk;exfalso;unfold oC at hk;simp only[Yw,Array.getElem?_replicate]at hk;split at hk<;>simp at hk
 ·have:sel (fun i=>(xs.getD i ([],[])).2) (oC (YP ops.size false)) ops.size=[]:=by
   unfold sel;have:(Ze ops.size).filter (oC (YP ops.size false))=[]:=by
    rw[XN];intro k hk;have hk:=Z2.1 hk;simp[oC,hk]
   rw[this];rfl
  rw[this];exact hS a w hs
end
end Go.V
namespace Go.V
def Hy:List W->Nat->Option R
 |[],_=>none
 | .reg d x::ws,d'=>if d.beq d' then some x else Hy ws d'
 |_::ws,d'=>Hy ws d'
def CE:List W->Nat->Nat->Option Hv
 |[],_,_=>none
 | .leaf r j x::ws,r',j'=>if r.beq r'&&j.beq j' then some x else CE ws r' j'
 |_::ws,r',j'=>CE ws r' j'
def qu (g:Gm)(ov:List W):List Nat->VS
 |[]=>[]
 | d::ds=>match Hy ov d with
   |some x=>.reg d x::qu g ov ds
   | none=>match g (.reg d)with
     |some (.r x)=>.reg d x::qu g ov ds
     |_=>qu g ov ds
def mf (g:Gm)(ov:List W)(r:Nat):Nat->Nat->List Hv
 |_,0=>[]
 | j,m+1=>match CE ov r j with
   |some h=>h::mf g ov r (j+1) m
   | none=>match g (.leaf r j)with
     |some (.h h)=>h::mf g ov r (j+1) m
     |_=>⟨0,0,none,.gone⟩::mf g ov r (j+1) m
def rU (g:Gm)(ov:List W):List Nat->VS
 |[]=>[]
 | r::rs=>match g (.meta_ r)with
   |some (.m k box)=>.root r box (mf g ov r 0 k)::rU g ov rs
   |_=>rU g ov rs
def xv (σ:VS)(regs roots:List Nat)(ov:List W):VS:=qu (get σ) ov regs++rU (get σ) ov roots
def lB (g whole:Gm)(r j:Nat)(p:Hv->Hv->Prop):Prop:=
 match g (.leaf r j)with
 | some (.h h')=>match whole (.leaf r j)with
   |some (.h h)=>p h' h
   |_=>False
 |_=>False
def qb (whole:Gm):List BA->Prop
 |[]=>True
 | .pt r _::cs=>(match whole (.meta_ r)with
   |some (.m _ true)=>True
   |_=>False)/\qb whole cs
 | .rp _ _::cs=>qb whole cs
def Ns (g whole:Gm):A->A->Prop
 | .vw r j v' lo n,x=>match x with
   | .vw r2 j2 v lo2 n2=>(Z5 r r2&&Z5 j j2)=true/\lo=lo2/\n=n2/\lB g whole r j fun h' h=>h'.ver=v'/\h.ver=v
   |_=>False
 | .pn r j v' iv' p,x=>match x with
   | .pn r2 j2 v iv p2=>(Z5 r r2&&Z5 j j2)=true/\p=p2/\lB g whole r j fun h' h=>h'.ver=v'/\h.ver=v/\h'.iv=iv'/\h.iv=iv
   |_=>False
 | .vn r j v' iv' p lo n,x=>match x with
   | .vn r2 j2 v iv p2 lo2 n2=>(Z5 r r2&&Z5 j j2)=true/\p=p2/\lo=lo2/\n=n2/\lB g whole r j fun h' h=>h'.ver=v'/\h.ver=v/\h'.iv=iv'/\h.iv=iv
   |_=>False
 | .pt r j,x=>x=.pt r j/\match whole (.meta_ r)with
   |some (.m _ true)=>True
   |_=>False
 | .v y,x=>x=.v y
 | .nl,x=>x=.nl
 | .ro sz es,x=>x=.ro sz es
 | .rp rec j,x=>x=.rp rec j
 | .fn f caps,x=>x=.fn f caps/\qb whole caps
 | .mv r j v',x=>match x with
   | .mv r2 j2 v=>(Z5 r r2&&Z5 j j2)=true/\lB g whole r j fun h' h=>h'.ver=v'/\h.ver=v
   |_=>False
 | .st _ _ _ _ _,_=>False
 | .it es vs,x=>x=.it es vs
 | .un,x=>x=.un
def Gu (g whole:Gm):List A->List A->Prop
 |[],[]=>True
 |y::ys,x::xs=>Ns g whole y x/\Gu g whole ys xs
 |_,_=>False
mutual
def rP (g whole:Gm):R->R->Prop
 | .one y,x=>match x with
   | .one x=>Ns g whole y x
   |_=>False
 | .agg ys,x=>match x with
   | .agg xs=>Gu g whole ys xs
   |_=>False
 | .tup rs,x=>match x with
   | .tup qs=>xm g whole rs qs
   |_=>False
def xm (g whole:Gm):List R->List R->Prop
 | [],xs=>match xs with
   |[]=>True
   |_=>False
 | r::rs,xs=>match xs with
   |q::qs=>rP g whole r q/\xm g whole rs qs
   |_=>False
end
def jL (g:Gm)(r:Nat):Nat->List Hv->Prop
 |_,[]=>True
 | j,h::hs=>(match g (.leaf r j)with
   | some (.h h')=>h'.c=h.c/\match h.org with
     |none=>True
     |some i=>h'.org=some i
   |_=>False)/\jL g r (j+1) hs
def jH (g whole:Gm):VS->Prop
 |[]=>True
 | .reg d x::τ=>(match g (.reg d)with
   |some (.r y)=>rP g whole y x
   |_=>False)/\jH g whole τ
 | .root r box hs::τ=>(match g (.meta_ r)with
   |some (.m k b)=>k=hs.length/\b=box
   |_=>False)/\jL g r 0 hs/\jH g whole τ
 | .leaf _ _ _::_=>False
def G5 (g:Gm):List Nat->Prop
 |[]=>True
 | r::rs=>(match g (.meta_ r)with
   |some (.m _ true)=>True
   |_=>False)/\G5 g rs
def QN (an:List Nat)(σ τ:VS):Prop:=jH (get σ) (get τ) τ/\G5 (get τ) an
def xx {g:Gm}:∀ {an:List Nat},G5 g an->∀ r∈an,∃ k,g (.meta_ r)=some (.m k true)
 |[],_,r,h=>by cases h
 | a::an,h,r,hr=>by
   rcases Zj.1 hr with rfl|hr
   ·obtain⟨h,_⟩:=h;split at h
    ·rename_i k e;exact⟨k,e⟩
    ·exact h.elim
   ·exact xx h.2 r hr
section
variable {P: Program} {cx: Cx}
def jH.regs {g whole:Gm}:∀ {τ:VS},jH g whole τ->∀ d x,get τ (.reg d)=some x->∃ r y,x=.r r/\g (.reg d)=some (.r y)/\rP g whole y r
 |[],_,d,x,h=>by simp[get]at h
 | .reg d' y::τ,hs,d,x,h=>by
   obtain⟨h1,h3⟩:=hs;simp only[get,W.app]at h;split at h
   ·rename_i e;cases e;cases h;split at h1
    ·rename_i y' e';exact⟨_,_,rfl,e',h1⟩
    ·exact h1.elim
   ·exact jH.regs h3 d x h
 | .root r box hs::τ,hsub,d,x,h=>by
   simp only[get,W.app]at h;exact jH.regs hsub.2.2 d x h
 | .leaf _ _ _::_,hs,_,_,_=>hs.elim
def jH.metas {g whole:Gm}:∀ {τ:VS},jH g whole τ->∀ r x,get τ (.meta_ r)=some x->(∃ k box,x=.m k box)/\g (.meta_ r)=some x
 |[],_,r,x,h=>by simp[get]at h
 | .reg d' y::τ,hs,r,x,h=>by
   simp only[get,W.app]at h;rw[VK (by simp)]at h;exact jH.metas hs.2 r x h
 | .root r' box hs::τ,hsub,r,x,h=>by
   obtain⟨h1,h2,h3⟩:=hsub;simp only[get,W.app]at h;split at h
   ·rename_i e;subst e;cases h;split at h1
    ·rename_i k b e';obtain⟨rfl,rfl⟩:=h1;exact⟨⟨_,_,rfl⟩,e'⟩
    ·exact h1.elim
   ·exact jH.metas h3 r x h
 | .leaf _ _ _::_,hs,_,_,_=>hs.elim
def jL.at {g:Gm}{r:Nat}:∀ {hs:List Hv} {j i:Nat} {x:Hv},jL g r j hs->hs[i]?=some x->∃ h',g (.leaf r (j+i))=some (.h h')/\h'.c=x.c/\(∀ o,x.org=some o->h'.org=some o)
 |[],_,_,_,_,h=>by simp at h
 | y::hs,j,i,x,hle,h=>by
   obtain⟨h1,h2⟩:=hle;cases i with
   | zero=>
     simp at h;subst h;split at h1
     ·rename_i h' e;refine⟨h',e,h1.1,fun o ho=>?_⟩;have:=h1.2;rw[ho]at this;exact this
     ·exact h1.elim
   | succ i=>
     simp at h;obtain⟨h',e,e2⟩:=jL.at h2 h;exact⟨h',by rw[<-e];congr 2;omega,e2⟩
def jH.leaves {g whole:Gm}:∀ {τ:VS},jH g whole τ->∀ r j x,get τ (.leaf r j)=some x->∃ h h' k box,x=.h h/\g (.leaf r j)=some (.h h')/\(h'.c=h.c/\∀ o,h.org=some o->h'.org=some o)/\get τ (.meta_ r)=some (.m k box)/\j<k
 |[],_,r,j,x,h=>by simp[get]at h
 | .reg d' y::τ,hs,r,j,x,h=>by
   simp only[get,W.app]at h ⊢;rw[VK (by simp)]at h;rw[VK (by simp)];exact jH.leaves hs.2 r j x h
 | .root r' box hs::τ,hsub,r,j,x,h=>by
   simp only[get,W.app]at h ⊢;split at h
   ·rename_i e;subst e;rw[VJ rfl];simp only[Zy]at h;obtain⟨y,e1,rfl⟩:=h;obtain⟨h',e2,e3⟩:=jL.at hsub.2.1 e1;rw[ZP]at e2;exact⟨y,h',_,_,rfl,e2,e3,rfl,(ZB.1 e1).1⟩
   ·rename_i e;rw[VK e];exact jH.leaves hsub.2.2 r j x h
 | .leaf _ _ _::_,hs,_,_,_,_=>hs.elim
def QN.sim {an:List Nat}(ha:∀ r x,cx.aloc r=some x->r∈an){σ τ:VS}(h:QN an σ τ){a:Act}{w:World}(hS:d5 cx (get σ) a w):d5 cx (get τ) a w:=by
 obtain⟨G,hS⟩:=hS;obtain⟨h,hk⟩:=h
 open Classical in
 let G':Gh:={G with loc:=fun r=>if∃ k,get τ (.meta_ r)=some (.m k true)then G.loc r else none}
 have pair:∀ r j (p:Hv->Hv->Prop),lB (get σ) (get τ) r j p->∀ h0,gl (get σ) r j=some h0->∃ h1,gl (get τ) r j=some h1/\p h0 h1/\h1.c=h0.c:=by
  intro r j p hs h0 e;rw[ap]at e;unfold lB at hs;rw[e]at hs;simp only at hs;split at hs
  ·rename_i h1 e1;obtain⟨y,h',_,_,q1,q2,q3,_⟩:=jH.leaves h r j _ e1;cases q1;rw[e]at q2;cases q2;exact⟨h1,ap.2 e1,hs,q3.1.symm⟩
  ·exact hs.elim
 have beq:∀ {r r2 j j2:Nat},(Z5 r r2&&Z5 j j2)=true->r=r2/\j=j2:=by
  intro r r2 j j2 e;simp only[Zb]at e;exact⟨Ys e.1,Ys e.2⟩
 have hA:∀ y x v,Ns (get σ) (get τ) y x->gq (gl (get σ)) G w y v->gq (gl (get τ)) G' w x v:=by
  intro y x v hc hx;cases y with
  | pt r j=>
    obtain⟨rfl,hc⟩:=hc;obtain⟨b,off,e1,e2⟩:=hx;refine⟨b,off,?_,e2⟩;split at hc
    ·rename_i k e;simp only[G'];rw[VJ ⟨k,e⟩];exact e1
    ·exact hc.elim
  |st _ _ _ _ _=>exact hc.elim
  | mv r j v'=>
    cases x with
    | mv r2 j2 ver=>
      obtain⟨e,hp⟩:=hc;obtain⟨rfl,rfl⟩:=beq e;obtain⟨h0,e1,e2,e3⟩:=hx;obtain⟨h1,f1,⟨f2,f3⟩,f4⟩:=pair r j _ hp h0 e1;exact⟨h1,f1,Uc,fun _ kb es qc=>e3 f2 kb es (by rw[<-f4];exact qc)⟩
    |_=>exact hc.elim
  | vw r j v' lo n=>
    cases x with
    | vw r2 j2 ver lo2 n2=>
      obtain⟨e,rfl,rfl,hp⟩:=hc;obtain⟨rfl,rfl⟩:=beq e;obtain⟨h0,e1,e2,e3⟩:=hx;obtain⟨h1,f1,⟨f2,f3⟩,f4⟩:=pair r j _ hp h0 e1;exact⟨h1,f1,Uc,fun _ sz es qc=>e3 f2 sz es (by rw[<-f4];exact qc)⟩
    |_=>exact hc.elim
  | pn r j v' iv' p=>
    cases x with
    | pn r2 j2 ver iv p2=>
      obtain⟨e,rfl,hp⟩:=hc;obtain⟨rfl,rfl⟩:=beq e;obtain⟨h0,e1,e2,e3,e4,e5⟩:=hx;obtain⟨h1,f1,⟨f2,f3,f5,f6⟩,f4⟩:=pair r j _ hp h0 e1;exact⟨h1,f1,Uc,Uc,e4,fun _ l qc=>e5 (by simp[vm,f2,f5]) l (by rw[<-f4];exact qc)⟩
    |_=>exact hc.elim
  | vn r j v' iv' p lo n=>
    cases x with
    | vn r2 j2 ver iv p2 lo2 n2=>
      obtain⟨e,rfl,rfl,rfl,hp⟩:=hc;obtain⟨rfl,rfl⟩:=beq e;obtain⟨h0,e1,e2,e3,e4,e5⟩:=hx;obtain⟨h1,f1,⟨f2,f3,f5,f6⟩,f4⟩:=pair r j _ hp h0 e1;exact⟨h1,f1,Uc,Uc,e4,fun _ l rec o sz es qc=>e5 (by simp[gV,f2,f5]) l rec o sz es (by rw[<-f4];exact qc)⟩
    |_=>exact hc.elim
  |v y=>have hc:x=_:=hc;subst hc;exact hx
  |nl=>have hc:x=_:=hc;subst hc;exact hx
  |ro sz es=>have hc:x=_:=hc;subst hc;exact hx
  |rp rec j=>have hc:x=_:=hc;subst hc;exact hx
  |un=>have hc:x=_:=hc;subst hc;trivial
  |it es vs=>have hc:x=_:=hc;subst hc;exact hx
  | fn f caps=>
    obtain⟨rfl,hc⟩:=hc;obtain⟨ps,e,hx⟩:=hx;refine⟨ps,e,?_⟩;have key:∀ (caps:List BA) (ps:List Value),qb (get τ) caps->dH G w caps ps->dH G' w caps ps:=by
     intro caps
     induction caps with
     |nil=>intro ps _ h;exact h
     | cons c cs ih=>
       intro ps hk hx;obtain⟨v,vs',e,h1,h2⟩:=hx;cases c with
       | pt r j=>
         obtain⟨k1,k2⟩:=hk;refine⟨v,vs',e,?_,ih _ k2 h2⟩;obtain⟨b,off,e1,e2⟩:=h1;refine⟨b,off,?_,e2⟩;split at k1
         ·rename_i k e;simp only[G'];rw[VJ ⟨k,e⟩];exact e1
         ·exact k1.elim
       |rp rec j=>exact⟨v,vs',e,h1,ih _ hk h2⟩
    exact key caps ps hc hx
 have hAs:∀ ys xs vs,Gu (get σ) (get τ) ys xs->bQ (gl (get σ)) G w ys vs->bQ (gl (get τ)) G' w xs vs:=by
  intro ys
  induction ys with
  | nil=>intro xs vs hc hx;cases xs with
    |nil=>exact hx
    |cons _ _=>exact hc.elim
  | cons y ys ih=>
    intro xs vs hc hx;cases xs with
    |nil=>exact hc.elim
    | cons x xs=>
      obtain⟨v,vs',e,h1,h2⟩:=hx;exact⟨v,vs',e,hA y x v hc.1 h1,ih xs vs' hc.2 h2⟩
 have hR:∀ y x v,rP (get σ) (get τ) y x->cK (gl (get σ)) G w y v->cK (gl (get τ)) G' w x v:=by
  intro y
  induction y using R.rec (motive_2:=fun ys=>∀ xs vs,xm (get σ) (get τ) ys xs->hZ (gl (get σ)) G w ys vs->hZ (gl (get τ)) G' w xs vs)with
  | one y=>
    intro x v hc hx;cases x with
    |one x=>simp only[cK,rP]at*;exact hA y x v hc hx
    |agg _=>simp[rP]at hc
    |tup _=>simp[rP]at hc
  | agg ys=>
    intro x v hc hx;cases x with
    |agg xs=>simp only[cK,rP]at*;obtain⟨vs,e,hx⟩:=hx;exact⟨vs,e,hAs ys xs vs hc hx⟩
    |one _=>simp[rP]at hc
    |tup _=>simp[rP]at hc
  | tup ys ih=>
    intro x v hc hx;cases x with
    |tup xs=>simp only[cK,rP]at*;obtain⟨vs,e,hx⟩:=hx;exact⟨vs,e,ih xs vs hc hx⟩
    |one _=>simp[rP]at hc
    |agg _=>simp[rP]at hc
  | nil=>
    rename_i xs vs hc hx;cases xs with
    |nil=>exact hx
    |cons _ _=>simp[xm]at hc
  | cons r rs ih1 ih2=>
    rename_i xs vs hc hx;cases xs with
    |nil=>simp[xm]at hc
    | cons q qs=>
      simp only[hZ,xm]at*;obtain⟨v,vs',e,h1,h2⟩:=hx;exact⟨v,vs',e,ih1 q v hc.1 h1,ih2 qs vs' hc.2 h2⟩
 refine⟨G',hS.defers,hS.tm,?_,?_,?_,?_,?_,hS.lt,hS.frame,hS.frow,?_,?_,hS.afr,?_,?_,hS.roX⟩
 ·intro d x hx;obtain⟨r,y,rfl,he,hc⟩:=jH.regs h d x hx;obtain⟨e1,r',e2,e3⟩:=hS.reg d _ he;cases e2;exact⟨e1,r,rfl,hR y r _ hc e3⟩
 ·intro r k hk;obtain⟨b,off,cur,ty,f1,f2⟩:=hS.boxes r k (jH.metas h r _ hk).2;exact⟨b,off,cur,ty,by simp only[G'];rw[VJ ⟨k,hk⟩];exact f1,f2⟩
 ·intro r j x hx;obtain⟨y,h',k,box,rfl,q2,q3,q4,q5⟩:=jH.leaves h r j x hx;obtain⟨h0,k0,box0,e1,e2,e3,e4⟩:=hS.leaf r j _ q2;cases e1;refine⟨y,k,box,rfl,q4,q5,?_⟩;unfold dO at e4 ⊢;rw[q3.1]at e4;exact e4
 ·intro r x hx;exact(jH.metas h r x hx).1
 ·intro r b hb;simp only[G']at hb;split at hb
  ·rename_i e;exact e
  ·cases hb
 ·intro r j h0 e i hi hl;obtain⟨y,h',k,box,e1,q2,q3,q4,q5⟩:=jH.leaves h r j _ (ap.1 e);cases e1;exact hS.anc r j h' (ap.2 q2) i (q3.2 i hi) (by rw[q3.1];exact hl)
 ·intro r x hx;have:=xx hk r (ha r x hx);simp only[G'];obtain⟨k,hk2⟩:=this;rw[VJ ⟨k,hk2⟩];obtain⟨g1,g2⟩:=hS.aloc r x hx;have:=(jH.metas h r _ hk2).2;rw[this]at g2;cases g2;exact⟨g1,hk2⟩
 ·intro r1 r2 k1 k2 b o1 o2 hne h1 h2 q1 q2;simp only[G']at q1 q2;rw[VJ ⟨k1,h1⟩]at q1;rw[VJ ⟨k2,h2⟩]at q2;exact hS.sep r1 r2 k1 k2 b o1 o2 hne (jH.metas h r1 _ h1).2 (jH.metas h r2 _ h2).2 q1 q2
 ·intro r b off hx ha2;simp only[G']at hx;split at hx
  ·exact hS.newb r b off hx ha2
  ·cases hx
def d5.drawn {g:Gm}{a:Act}{w:World}(h:d5 cx g a w)(k:Nat):d5 cx g a {w with drawn:=k}:=by
 obtain⟨G,hS⟩:=h
 let w':World:={w with drawn:=k}
 have st:Step g G w g G w':=⟨fun r j h hh=>⟨h,hh,.inl ⟨rfl,rfl,fun _ _ _ _=>rfl⟩⟩,fun b hb=>⟨hb,rfl⟩,fun b hb=>⟨hb,rfl⟩,fun r x h=>h⟩;refine⟨G,hS.defers,hS.tm,?_,hS.boxes,?_,hS.metas,hS.noloc,hS.lt,⟨hS.frame.os,hS.frame.tape,hS.frame.output,hS.frame.size,hS.frame.block⟩,hS.frow,hS.anc,hS.aloc,fun r b off e=>(hS.afr r b off e).keep rfl,hS.sep,hS.newb,hS.roX⟩
 ·intro d x hx;obtain⟨e1,r,e2,e3⟩:=hS.reg d x hx;exact⟨e1,r,e2,cK.step hS st _ _ e3⟩
 ·intro r j x hx;obtain⟨h,k',box,e1,e2,e3,e4⟩:=hS.leaf r j x hx;refine⟨h,k',box,e1,e2,e3,?_⟩;unfold dO at e4 ⊢;split at e4
  ·exact⟨bO.keep (w':=w') _ _ _ e4.1 (fun _ _=>rfl),e4.2⟩
  ·obtain⟨S,h1,h2⟩:=e4;exact⟨S,bO.keep (w':=w') _ _ _ h1 (fun _ _=>rfl),h2⟩
  ·trivial
end
end Go.V
namespace Go.V
section
variable (T: wE) (O: EJ) (ct: Dk) (n: Nat) (an: List Nat)
def Cy:List Oper->Option (Nat×Nat×Nat)
 | [o1,o2]=>match o1.op with
   | .next (.tmp it) false=>match o2.op with
     | .extract (.tmp d) 0=>match o1.dst,o1.guard,o2.dst,o2.guard with
       | some d1,none,some d2,none=>match Z5 d d1 with
         |true=>some (it,d1,d2)
         |false=>none
       |_,_,_,_=>none
     |_=>none
   |_=>none
 |_=>none
def IA (it d1 d2:Nat)(draw:Bool)(σ:VS)(K:VS->Prop):Prop:=
 match draw with
 |true=>False
 | false=>match get σ (.reg it)with
   | some (.r (.one (.it es vs)))=>(sn it σ&&(Wu d1 n&&(Wu d2 n&&(!Nat.beq d1 it&& !Nat.beq d2 it))))=true/\
      (∀ k:Int,O.pr (fun _=>k∈mg es/\vs.length<es.length)->K (.reg d2 (.k true):: .reg d1 (.one .un):: .reg it (.one (.it es (k::vs)))::σ))/\
      (O.pr (fun _=>∀ k∈mg es,k∈vs)->K (.reg d2 (.k false):: .reg d1 (.one .un)::σ))
   |_=>False
def Bp (ops:Array Oper)(draw:Bool)(Q:VS->Prop)(σ:VS):Prop:=
 xQ T O ct n ops ops.toList σ [] fun σ' acc=>match draw with
  |true=>O.pr (fun _=>ay ops acc.reverse=true)/\Q σ'
  |false=>Q σ'
def m9:Code->(Ex->VS->Prop)->VS->Prop
 | .skip,Q,σ=>Q .normal σ
 | .region id ops draw,Q,σ=>match Cy ops.toList with
   |some (it,d1,d2)=>IA O n it d1 d2 draw σ (fun σ'=>Q .normal σ')
   | none=>match lk T.alL id with
     |none=>Bp T O ct n ops draw (Q .normal) σ
     |some _=>Bp T O ct n ops draw (Q .normal) σ\/Bp T O ⟨ct.rd,ct.mu,fun _=>none,ct.nw,ct.tk⟩ n ops draw (Q .normal) σ
 | .seq x y,Q,σ=>m9 x (fun e σ'=>match e with
    | .normal=>m9 y Q σ'
    | .exit i=>Q (.exit i) σ'
    | .ret=>Q .ret σ') σ
 | .cond c x y,Q,σ=>(ym c .ret).wpU (get σ) [] fun _ b=>F9 b (fun _=>m9 x Q σ) (fun _=>m9 y Q σ)
 | .block id x,Q,σ=>m9 x (fun e σ'=>match e with
    | .normal=>Q .normal σ'
    | .exit i=>match Z5 i id with
      |true=>Q .normal σ'
      |false=>Q (.exit i) σ'
    | .ret=>Q .ret σ') σ
 | .loop x,Q,σ=>∃ (regs roots:List Nat) (α:Type) (ov:α->List W) (rel:α->Prop) (μ:α->Nat),(∃ s0,rel s0/\QN an σ (xv σ regs roots (ov s0)))/\
    ∀ s,rel s->m9 x (fun e σ'=>match e with
     | .normal=>∃ s',rel s'/\μ s'<μ s/\QN an σ' (xv σ regs roots (ov s'))
     | .exit i=>Q (.exit i) σ'
     | .ret=>Q .ret σ') (xv σ regs roots (ov s))
 | .exit id,Q,σ=>Q (.exit id) σ
 | .ret,Q,σ=>Q .ret σ
 | .scope x,Q,σ=>m9 x Q σ
 |_,_,_=>False
def GC {α:Type}(O:EJ)(ti:TI)(k:DV->List (Nat×Nat)->Rd α)(as:List A):Rd α:=
 iX O ti.slots as fun lts srcs=>if ti.agg then k (.agg (lts.map (·.1))) srcs else match lts with
  |[(l,_)]=>k (.one l) srcs
  |_=>.fail
def HS {α:Type}(t:TypeId)(rv:ResultVar)(k:DV->List (Nat×Nat)->Rd α):Rd α:=
 match lk T.tyL t with
 |none=>.fail
 | some ti=>match rv with
   | .tmp x=>Bw x fun r=>match r with
     | .one a=>if ti.agg then .fail else GC O ti k [a]
     | .agg as=>if ti.agg then GC O ti k as else .fail
     | .tup _=>.fail
   | .cell x t'=>if t'==t then Bw x fun r=>match r with
     | .one (.pt r j)=>iV O r j ti.zero.length (GC O ti k)
     |_=>.fail
     else .fail
def yQ {α:Type}:List TypeId->List ResultVar->(List DV->List (Nat×Nat)->Rd α)->Rd α
 |[],[],k=>k [] []
 |t::ts,rv::rvs,k=>HS T O t rv fun d src=>yQ ts rvs fun ds srcs=>k (d::ds) (src++srcs)
 |_,_,_=>.fail
def xP (ts:List TypeId)(rvs:List ResultVar)(σ:VS)(res:List DV):Prop:=
 (yQ T O ts rvs fun ds srcs=>if bz srcs then .req (O.pr fun _=>ds=res) (.ret ())else .fail).wpU (get σ) [] fun _ _=>True
end
section
variable {P: Program} {T: wE} {cx: Cx} {g: Gm}
def mS {α:Type}{r:Nat}:∀ {m j:Nat} {k' k:List A->Rd α} {ls:List Loc} {x:α},(∀ as ls,(k' as).Runs g ls x->(k as).Runs g ls x)->(dT r j m k').Runs g ls x->(dT r j m k).Runs g ls x
 |0,j,k',k,ls,x,hk,h=>hk _ _ h
 |m+1,j,k',k,ls,x,hk,h=>dD (fun v ls h=>mS (fun as ls h=>hk _ _ h) h) h
def Fh (hT:bG P T){α:Type}{t:TypeId}{rv:ResultVar}{k' k:DV->List (Nat×Nat)->Rd α}{ls:List Loc}{x:α}(hk:∀ d s ls,(k' d s).Runs g ls x->(k d s).Runs g ls x)(h:(HS T am t rv k').Runs g ls x):(HR P t rv k).Runs g ls x:=by
 revert h
 unfold HS HR;rcases hT.ty t with e|⟨ti,e,e2⟩
 ·simp only[e];exact fun h=>h.elim
 ·simp only[e,e2];have hf:∀ (as:List A) (ls:List Loc),(GC am ti k' as).Runs g ls x->(cR ti.slots as fun lts srcs=>if ti.agg then k (.agg (lts.map (·.1))) srcs else match lts with
   |[(l,_)]=>k (.one l) srcs
   |_=>.fail).Runs g ls x:=by
   intro as ls h;unfold GC at h;rw[iY]at h;refine hD ?_ h;intro l src ls h;by_cases ha:ti.agg=true
   ·rw[VJ ha]at h ⊢;exact hk _ _ _ h
   ·rw[VK ha]at h ⊢;split at h
    ·exact hk _ _ _ h
    ·exact h.elim
  intro h;cases rv with
  | tmp y=>
    refine vQ ?_ h;intro r ls h;cases r with
    | one a=>
      simp only at h ⊢;split at h
      ·exact h.elim
      ·rename_i hb;rw[VK hb];exact hf _ _ h
    | agg as=>
      simp only at h ⊢;split at h
      ·rename_i hb;rw[VJ hb];exact hf _ _ h
      ·exact h.elim
    |tup rs=>exact h
  | cell y t'=>
    refine cP (fun ls h=>?_) h;refine vQ ?_ h;intro r ls h;cases r with
    | one a=>cases a with
      | pt r j=>
        simp only[ki]at h;exact mS (fun as ls h=>hf as ls h) h
      |_=>exact h
    |agg as=>exact h
    |tup rs=>exact h
def mw (hT:bG P T){α:Type}:∀ {ts:List TypeId} {rvs:List ResultVar} {k' k:List DV->List (Nat×Nat)->Rd α} {ls:List Loc} {x:α},(∀ d s ls,(k' d s).Runs g ls x->(k d s).Runs g ls x)->(yQ T am ts rvs k').Runs g ls x->(vR P ts rvs k).Runs g ls x
 |[],[],k',k,ls,x,hk,h=>hk _ _ _ h
 |[],_::_,k',k,ls,x,hk,h=>h
 |_::_,[],k',k,ls,x,hk,h=>h
 |t::ts,rv::rvs,k',k,ls,x,hk,h=>Fh hT (fun d s ls h=>mw hT (fun d s ls h=>hk _ _ _ h) h) h
def AO {ops:List Oper}{it d1 d2:Nat}(h:Cy ops=some (it,d1,d2)):∃ o1 o2,ops=[o1,o2]/\o1.op=.next (.tmp it) false/\o1.dst=some d1/\o1.guard=none/\o2.op=.extract (.tmp d1) 0/\o2.dst=some d2/\o2.guard=none:=by
 unfold Cy at h;split at h
 ·rename_i o1 o2;split at h
  ·rename_i it' e1;split at h
   ·rename_i d e2;split at h
    ·rename_i e3 e4 e5 e6;split at h
     ·rename_i hb;cases h;cases Ys hb;exact⟨o1,o2,rfl,e1,e3,e4,e2,e5,e6⟩
     ·cases h
    ·cases h
   ·cases h
  ·cases h
 ·cases h
def om (hT:bG P T){ct:Dk}(hct:ux P ct)(hm:P.follows .mixedOrders=true){n:Nat}(hn:n=cx.n){id:Nat}{ops:Array Oper}{draw:Bool}{Q:Ex->VS->Prop}{σ:VS}{a:Act}{w:World}(h:Bp T am ct n ops draw (Q .normal) σ)(hS:d5 cx (get σ) a w):
 (Vm id ops draw).wp P (fun e a' w'=>∃ ex σ',e=JD ex/\Q ex σ'/\d5 cx (get σ') a' w') a w:=by
 unfold Bp at h;obtain⟨xs,σ',h1,h2⟩:=oN hT hct _ _ _ _ h;subst hn;cases draw with
 |false=>exact wp_region_list (h1.text hS (fun a' w' hs=>⟨.normal,σ',rfl,h2,hs⟩))
 | true=>
   obtain⟨h2,h3⟩:=h2;refine AU hm h1 ?_ (fun a' w' hs=>⟨.normal,σ',rfl,h3,hs⟩) (fun a w h=>h.drawn _) hS;have h2:ay ops _=true:=h2
   simpa using h2
def cY (hT:bG P T){ct:Dk}(hct:ux P ct)(hm:P.follows .mixedOrders=true){n:Nat}(hn:n=cx.n){an:List Nat}(ha:∀ r x,cx.aloc r=some x->r∈an):∀ (c:Code) (Q:Ex->VS->Prop) (σ:VS) (a:Act) (w:World),m9 T am ct n an c Q σ->d5 cx (get σ) a w->
 c.wp P (fun e a' w'=>∃ ex σ',e=JD ex/\Q ex σ'/\d5 cx (get σ') a' w') a w
 | .skip,Q,σ,a,w,h,hS=>wp_skip ⟨.normal,σ,rfl,h,hS⟩
 | .region id ops draw,Q,σ,a,w,h,hS=>by
   unfold m9 at h;split at h
   ·rename_i it d1 d2 hq;unfold IA at h;split at h
    ·exact h.elim
    split at h
    case h_2=>exact h.elim
    rename_i es vs hit;obtain⟨hb,hT',hF'⟩:=h;simp only[Zb,YK]at hb;obtain⟨b1,b2,b3,b4,b5⟩:=hb;obtain⟨o1,o2,e0,p1,p2,p3,p4,p5,p6⟩:=AO hq;subst hn;refine wp_region_list ?_;rw[e0];refine Cz hS hit b1 (by simpa[Vn]using b2) (by simpa[Vn]using b3) (Wv b4) (Wv b5) p1 p2 p3 p4 p5 p6 ?_ ?_
    ·intro k hk hl a' w' hs;exact⟨.normal,_,rfl,hT' k ⟨hk,hl⟩,hs⟩
    ·intro hall a' w' hs;exact⟨.normal,_,rfl,hF' hall,hs⟩
   split at h
   ·exact om hT hct hm hn h hS
   ·rcases h with h|h;exact om hT hct hm hn h hS;exact om (ct:=⟨ct.rd,ct.mu,fun _=>none,ct.nw,ct.tk⟩) hT ⟨hct.1,hct.2.1,fun _ _ e=>(by cases e),hct.2.2.2.1,hct.2.2.2.2⟩ hm hn h hS
 | .seq x y,Q,σ,a,w,h,hS=>by
   refine wp_seq (YJ ?_ (cY hT hct hm hn ha x _ σ a w h hS));rintro e a' w' ⟨ex,σ',rfl,hq,hs⟩;cases ex with
   |normal=>exact cY hT hct hm hn ha y Q σ' a' w' hq hs
   |exit i=>exact⟨.exit i,σ',rfl,hq,hs⟩
   |ret=>exact⟨.ret,σ',rfl,hq,hs⟩
 | .cond c x y,Q,σ,a,w,h,hS=>by
   obtain⟨G,hG⟩:=id hS;obtain⟨ls,b,t,h1,h2,_⟩:=Rd.wpU_runs h;obtain⟨b',ls',e,h3⟩:=qk hG h1;refine wp_cond e ?_;simp only[Rd.Runs]at h3;obtain⟨_,rfl⟩:=h3;cases b with
   |true=>exact cY hT hct hm hn ha x Q σ a w h2 hS
   |false=>exact cY hT hct hm hn ha y Q σ a w h2 hS
 | .block id x,Q,σ,a,w,h,hS=>by
   refine wp_block (YJ ?_ (cY hT hct hm hn ha x _ σ a w h hS));rintro e a' w' ⟨ex,σ',rfl,hq,hs⟩;cases ex with
   |normal=>exact⟨.normal,σ',rfl,hq,hs⟩
   | exit i=>
     simp only[JD,Exit.inBlock];simp only at hq;split at hq
     ·rename_i e;rw[VJ (Ys e)];exact⟨.normal,σ',rfl,hq,hs⟩
     ·rename_i e;rw[VK (Wv e)];exact⟨.exit i,σ',rfl,hq,hs⟩
   |ret=>exact⟨.ret,σ',rfl,hq,hs⟩
 | .loop x,Q,σ,a,w,h,hS=>by
   obtain⟨regs,roots,α,ov,rel,μ,⟨s0,hr0,hle0⟩,hround⟩:=h;refine wp_loop_ghost (fun s a w=>rel s/\d5 cx (get (xv σ regs roots (ov s))) a w) μ s0 ⟨hr0,hle0.sim ha hS⟩ ?_;rintro s a w ⟨hr,hs⟩;refine YJ ?_ (cY hT hct hm hn ha x _ _ a w (hround s hr) hs);rintro e a' w' ⟨ex,σ',rfl,hq,hs'⟩;cases ex with
   | normal=>
     obtain⟨s',k1,k2,k3⟩:=hq;exact⟨s',⟨k1,k3.sim ha hs'⟩,k2⟩
   |exit i=>exact⟨.exit i,σ',rfl,hq,hs'⟩
   |ret=>exact⟨.ret,σ',rfl,hq,hs'⟩
 | .exit id,Q,σ,a,w,h,hS=>wp_exit ⟨.exit id,σ,rfl,h,hS⟩
 | .ret,Q,σ,a,w,h,hS=>wp_ret ⟨.ret,σ,rfl,h,hS⟩
 | .scope x,Q,σ,a,w,h,hS=>by
   refine wp_scope_straight (YJ ?_ (cY hT hct hm hn ha x Q σ a w h hS));rintro e a' w' ⟨ex,σ',rfl,hq,hs⟩;cases ex with
   |normal=>exact⟨.normal,σ',rfl,hq,hs⟩
   |exit i=>exact⟨.exit i,σ',rfl,hq,hs⟩
   |ret=>exact⟨.ret,σ',rfl,hq,hs⟩
 | .rangeFunc _ _ _ _,Q,σ,a,w,h,hS=>h.elim
 | .label _,Q,σ,a,w,h,hS=>h.elim
 | .goto _,Q,σ,a,w,h,hS=>h.elim
 | .refuse _,Q,σ,a,w,h,hS=>h.elim
def JG (T:wE)(O:EJ)(ts:List TypeId)(rvs:List ResultVar)(res:List DV):Ex->VS->Prop
 | .normal,σ=>xP T O ts rvs σ res
 | .ret,σ=>xP T O ts rvs σ res
 | .exit _,_=>False
def ai {α:Type}{rel:α->Prop}{μ:α->Nat}{m:Nat}{le:α->Prop}(s:α)(h3:le s)(h1:rel s)(h2:μ s<m):∃ s,rel s/\μ s<m/\le s:=⟨s,h1,h2,h3⟩
end
end Go.V
namespace Go.V
def pw:L->L->Bool
 | .v (.int k _),.v (.int k' _)=>k==k'
 | .v (.bool _),.v (.bool _)=>true
 | .v (.string _),.v (.string _)=>true
 | .s sz _,.s sz' _=>sz==sz'
 |_,_=>false
def kU:ax->ax->Bool
 |[],[]=>true
 |z::zs,x::xs=>pw z x&&kU zs xs
 |_,_=>false
def Wf (z:ax)(es:af):Prop:=∀ e∈es,kU z e=true
def sS:∀ {z e:ax},kU z e=true->e.length=z.length
 |[],[],_=>rfl
 |[],_::_,h=>by cases h
 |_::_,[],h=>by cases h
 | z::zs,x::xs,h=>by
   simp only[kU,Zb]at h;simp[sS h.2]
def xp:∀ (o:Nat) {z e:ax},kU z e=true->kU (z.drop o) (e.drop o)=true
 |0,z,e,h=>h
 |o+1,[],[],h=>by simp[kU]
 |o+1,[],_::_,h=>by cases h
 |o+1,_::_,[],h=>by cases h
 | o+1,z::zs,x::xs,h=>by
   simp only[kU,Zb]at h;exact xp o h.2
def xq:∀ (m:Nat) {z e:ax},kU z e=true->kU (z.take m) (e.take m)=true
 |0,z,e,h=>by simp[kU]
 |m+1,[],[],h=>by simp[kU]
 |m+1,[],_::_,h=>by cases h
 |m+1,_::_,[],h=>by cases h
 | m+1,z::zs,x::xs,h=>by
   simp only[kU,Zb]at h;simp only[List.take_succ_cons,kU,Zb];exact⟨h.1,xq m h.2⟩
def Wf.at {z:ax}{es:af}(h:Wf z es){n:Nat}(hn:n<es.length):kU z (es.getD n [])=true:=by
 rw[Zp,Zt hn];exact h _ (List.getElem_mem hn)
def Wf.nil {z:ax}:Wf z []:=fun _ h=>by cases h
def Wf.cons {z e:ax}{es:af}(h:kU z e=true)(hs:Wf z es):Wf z (e::es):=by
 intro x hx;rcases Zj.1 hx with rfl|hx;exact h;exact hs x hx
def Wf.append {z:ax}{es fs:af}(h:Wf z es)(hs:Wf z fs):Wf z (es++fs):=by
 intro x hx;rcases List.mem_append.1 hx with hx|hx;exact h x hx;exact hs x hx
def Wf.take {z:ax}{es:af}(h:Wf z es)(n:Nat):Wf z (es.take n):=fun x hx=>h x (List.mem_of_mem_take hx)
def Wf.drop {z:ax}{es:af}(h:Wf z es)(n:Nat):Wf z (es.drop n):=fun x hx=>h x (List.mem_of_mem_drop hx)
def vg {es:af}{i:Int}{t:ax}:∀ {z:ax} {j:Nat} {rest:ax},kU z rest=true->(es.getD i.toNat []).drop j=rest++t->ky am es i j z=rest
 |[],j,[],_,_=>rfl
 |[],_,_::_,h,_=>by cases h
 |_::_,_,[],h,_=>by cases h
 | z::zs,j,x::xs,h,e=>by
   simp only[kU,Zb]at h;have hx:(es.getD i.toNat []).getD j .g=x:=by
    have:(es.getD i.toNat [])[j]?=some x:=by
     have:=congrArg (fun l:ax=>l[0]?) e
     simpa[Zv]using this
    rw[Zp,this];rfl
   have hr:(es.getD i.toNat []).drop (j+1)=xs++t:=by
    rw[<-Z9,e];rfl
   have ih:=vg h.2 hr;cases z with
   | v z=>cases z with
     | int k n=>cases x with
       | v x=>cases x with
         | int k' n'=>
           have:k=k':=by simpa[pw]using h.1
           subst this;simp only[ky,ih]
           congr 3
           exact(show ag es i j=_ by simp only[ag,hx,Ke])
         |_=>simp[pw]at h
       |_=>simp[pw]at h
     | bool b=>cases x with
       | v x=>cases x with
         | bool b'=>
           simp only[ky,ih]
           congr 3
           exact(show pA es i j=_ by simp only[pA,hx,lfB])
         |_=>simp[pw]at h
       |_=>simp[pw]at h
     | string b=>cases x with
       | v x=>cases x with
         | string b'=>
           simp only[ky,ih]
           congr 3
           exact(show LF es i j=_ by simp only[LF,hx,lfT])
         |_=>simp[pw]at h
       |_=>simp[pw]at h
     |_=>simp[pw]at h
   | s sz es0=>cases x with
     | s sz' es'=>
       have:sz=sz':=by simpa[pw]using h.1
       subst this;simp only[ky,ih]
       congr 2
       exact(show aO es i j=_ by simp only[aO,hx,LP])
     |_=>simp[pw]at h
   |g=>simp[pw]at h
   |m _ _=>simp[pw]at h
def Py {z:ax}{es:af}{i:Int}(hr:Wf z es)(h0:0<=i)(h1:i<es.length):0<=i/\i<es.length/\es.getD i.toNat []=ky am es i 0 z:=
 ⟨h0,h1,(vg (t:=[]) (hr.at Uc) (by simp)).symm⟩
def kg {sz:Nat}{es:af}{n j:Nat}:bP (.s sz es) [(n,j)]=(es[n]?).map (·,j):=rfl
def yN {sz:Nat}{es:af}{n j:Nat}:yM (.s sz es) [(n,j)]=ag es n j:=by
 simp only[yM,QC,QD,ag,pA,LF,EV,kg,ZI,Zp];cases es[n]? with
 |none=>rfl
 | some e=>
   simp only[Yk,Z6];cases e[j]? with
   |none=>rfl
   | some x=>cases x with
     |v x=>cases x<;>rfl
     |_=>rfl
def Pb {sz:Nat}{es:af}{n j:Nat}:QC (.s sz es) [(n,j)]=pA es n j:=by
 simp only[yM,QC,QD,ag,pA,LF,EV,kg,ZI,Zp];cases es[n]? with
 |none=>rfl
 | some e=>
   simp only[Yk,Z6];cases e[j]? with
   |none=>rfl
   | some x=>cases x with
     |v x=>cases x<;>rfl
     |_=>rfl
def Pj {sz:Nat}{es:af}{n j:Nat}:QD (.s sz es) [(n,j)]=LF es n j:=by
 simp only[yM,QC,QD,ag,pA,LF,EV,kg,ZI,Zp];cases es[n]? with
 |none=>rfl
 | some e=>
   simp only[Yk,Z6];cases e[j]? with
   |none=>rfl
   | some x=>cases x with
     |v x=>cases x<;>rfl
     |_=>rfl
def Pi {sz:Nat}{es:af}{n j:Nat}:mT (.s sz es) [(n,j)]=aO es n j:=by
 simp only[mT,aO,gT,kg,ZI,Zp];cases es[n]? with
 |none=>rfl
 | some e=>
   simp only[Yk,Z6];cases e[j]? with
   |none=>rfl
   |some x=>cases x<;>rfl
def KR:am.pi=yM:=rfl
def KQ:am.pb=QC:=rfl
def KT:am.pt=QD:=rfl
def KS:am.ps=mT:=rfl
def KN:am.gi=ag:=rfl
def KM:am.gb=pA:=rfl
def KP:am.gt=LF:=rfl
def KO:am.gs=aO:=rfl
def Ao {sz:Nat}{es:af}{n o:Nat}:∀ {z:ax} {j:Nat},ka am (.s sz es) [(n,o)] j z=ky am es n (o+j) z
 |[],j=>rfl
 | z::zs,j=>by
   have ih:ka am (.s sz es) [(n,o)] (j+1) zs=ky am es n (o+j+1) zs:=Ao;cases z with
   |v x=>cases x<;>simp only[ka,ky,uc,KR,KQ,KT,KN,KM,KP,yN,Pb,Pj,ih]
   |s a b=>simp only[ka,ky,uc,KS,KO,Pi,ih]
   |g=>simp only[ka,ky,ih]
   |m _ _=>simp only[ka,ky,ih]
def eA {z z0:ax}{sz:Nat}{es:af}{n o:Nat}(hr:Wf z0 es)(hn:n<es.length)(hz:(z0.drop o).take z.length=z)(ho:o+z.length<=z0.length):
 ∃ rec o',bP (.s sz es) [(n,o)]=some (rec,o')/\o'+z.length<=rec.length/\(rec.drop o').take z.length=ka am (.s sz es) [(n,o)] 0 z:=by
 have hf:=hr.at hn;have e1:es[n]?=some (es.getD n []):=by rw[Zp,Zt hn];rfl
 refine⟨es.getD n [],o,by rw[kg,e1];rfl,?_,?_⟩
 ·rw[sS hf];exact ho
 ·have hf2:kU z (((es.getD n []).drop o).take z.length)=true:=by
   have:=xq z.length (xp o hf);rw[hz]at this;exact this
  rw[Ao]
  symm
  exact vg (t:=((es.getD n []).drop o).drop z.length) hf2 (by rw[Yi,ZI];exact(ZK _ _).symm)
end Go.V
namespace Go.V
inductive Ty where
 |int (k:IntKind)
 |bool
 |str
 |sl (fs:List Ty)
mutual
def dm:Ty->L->Prop
 | .int k,.v (.int k' n)=>k'=k/\k.has n
 | .bool,.v (.bool _)=>True
 | .str,.v (.string s)=>s.size<=maxLen
 | .sl fs,.s sz es=>sz=fs.length/\es.length<=maxLen/\∀ e∈es,bU fs e
 |_,_=>False
def bU:List Ty->ax->Prop
 |[],[]=>True
 |t::ts,l::ls=>dm t l/\bU ts ls
 |_,_=>False
end
def shape (P:Program):Nat->TypeId->Option (List Ty)
 |0,_=>none
 | k+1,t=>
   let r:Option (List Ty):=match P.underlying t with
    |some (.int kd)=>some [.int kd]
    |some .bool=>some [.bool]
    |some .string=>some [.str]
    | some (.slice e)=>match shape P k e with
      |some (f::fs)=>if P.cellsOf e=(f::fs).length then some [.sl (f::fs)]else none
      |_=>none
    | some (.struct fs)=>(fs.toList.foldl (fun acc fd=>match acc,shape P k fd.type with
       |some acc,some ts=>if fd.offset=acc.length/\P.cellsOf fd.type=ts.length then some (acc++ts)else none
       |_,_=>none) (some []))
    |_=>none
   match r with
   |some ts=>if P.cellsOf t=ts.length then some ts else none
   |none=>none
def qf:∀ {ts us:List Ty} {r s:ax},bU ts r->bU us s->bU (ts++us) (r++s)
 |[],us,[],s,_,h2=>h2
 |[],_,_::_,_,h,_=>by simp[bU]at h
 |_::_,_,[],_,h,_=>by simp[bU]at h
 | t::ts,us,l::ls,s,h,h2=>by
   simp only[bU,List.cons_append]at h ⊢;exact⟨h.1,qf h.2 h2⟩
section
variable {P: Program} {w: World}
def Eo {sz:Nat}{c:ax->Prop}:∀ (len:Nat) (l:List Value),l.length=len*sz->(∀ i,i<len->∃ rec S,aj w rec ((l.drop (i*sz)).take sz) S/\c rec)->
 ∃ es S,es.length=len/\bE w sz es l S/\∀ e∈es,c e
 |0,l,hl,_=>⟨[],[],rfl,by simp only[bE];exact⟨Yz (by simpa using hl),trivial⟩,fun e h=>by cases h⟩
 | len+1,l,hl,h=>by
   obtain⟨rec,S,h1,h2⟩:=h 0 Uc;have hsz:sz<=l.length:=by rw[hl,Zl];omega
   obtain⟨es,T,k1,k2,k3⟩:=Eo (sz:=sz) (c:=c) len (l.drop sz) (by rw[Zo,hl,Zl];omega) (fun i hi=>by
    obtain⟨rec,S,h1,h2⟩:=h (i+1) Uc;refine⟨rec,S,?_,h2⟩;rw[Z9];rw[show sz+i*sz=(i+1)*sz from by rw[Zl];omega];exact h1)
   refine⟨rec::es,S++T,by simp[k1],?_,?_⟩
   ·simp only[bE];refine⟨l.take sz,l.drop sz,S,T,(ZK _ _).symm,by simp;omega,by simpa using h1,k2,rfl⟩
   ·intro e he;rcases Zj.1 he with rfl|he;exact h2;exact k3 e he
def uX {a:Addr}{n:Nat}{cs:List Value}(h:w.cells? 0 a n=some cs):cs.length=n/\∀ k,k<n->w.cell? (a.add k)=cs[k]?:=by
 unfold World.cells? at h;rw[VJ (ZG _)]at h;have hl:=mapM_some_length h;refine⟨by simpa using hl,fun k hk=>mapM_some_get h k k (by simp[hk])⟩
def add_add' (a:Addr)(ha:a.spot=none)(i k:Nat):(a.add i).add k=⟨a.block,a.off+i+k,none⟩:=by
 obtain⟨b,o,s⟩:=a;simp only at ha;subst ha;unfold Addr.add;split<;>split<;>simp_all<;>omega
def pz {α:Type}{f:Option (List Ty)->α->Option (List Ty)}(hf:∀ x,f none x=none):∀ (l:List α),l.foldl f none=none
 |[]=>rfl
 |x::l=>by rw[Y1,hf];exact pz hf l
def se {H:Type}{enc:TypeId×Value->H}:∀ (k:Nat) (t:TypeId) (ts:List Ty),shape P k t=some ts->∀ (fuel:Nat) (cs:List Value) (x:DataW H×List MemPlace),Xk enc P w 0 (fun _=>true) true fuel t cs=some x->
 ∃ rec S,aj w rec cs S/\bU ts rec
 |0,t,ts,hs,_,_,_,_=>by simp[shape]at hs
 |k+1,t,ts,hs,0,_,_,h=>by simp[Xk]at h
 | k+1,t,ts,hs,fuel+1,cs,x,h=>by
   simp only[shape]at hs;have hcell:P.cellsOf t=ts.length:=by
    split at hs
    ·rename_i r _;split at hs
     ·rename_i hc;cases hs;exact hc
     ·cases hs
    ·cases hs
   unfold Xk at h;cases hu:P.underlying t with
   |none=>simp[hu]at hs
   | some d=>
     simp only[hu]at hs h;cases d with
     | int kd=>
       have:ts=[.int kd]:=by
        simp only at hs;split at hs
        ·cases hs;rfl
        ·cases hs
       subst this
       match cs,h with
       | [.int k' n],h=>
         simp only at h;split at h
         ·rename_i hc;obtain⟨rfl,hwf⟩:=hc;simp only[Lit.wf,Zb,VI]at hwf;exact⟨[.v (.int k' n)],[],by simp[aj,bO,scal],by simp only[bU,dm];exact⟨⟨trivial,hwf⟩,trivial⟩⟩
         ·cases h
     | bool=>
       have:ts=[.bool]:=by
        simp only at hs;split at hs
        ·cases hs;rfl
        ·cases hs
       subst this
       match cs,h with
       |[.bool b],h=>exact⟨[.v (.bool b)],[],by simp[aj,bO,scal],by simp[bU,dm]⟩
     | string=>
       have:ts=[.str]:=by
        simp only at hs;split at hs
        ·cases hs;rfl
        ·cases hs
       subst this
       match cs,h with
       | [.string b],h=>
         simp only at h;split at h
         ·rename_i hc;exact⟨[.v (.string b)],[],by simp[aj,bO,scal],by simp only[bU,dm];exact⟨hc,trivial⟩⟩
         ·cases h
     | slice e=>
       simp only at hs;cases he:shape P k e with
       |none=>simp[he]at hs
       | some fs=>
         cases fs with
         |nil=>simp[he]at hs
         | cons f fs=>
           simp only[he]at hs;split at hs
           ·rename_i r hr;split at hr
            ·rename_i hce;cases hr;split at hs
             ·cases hs
              match cs,h with
              | [.slice none 0 0],h=>
                refine⟨[.s (f::fs).length []],[],?_,?_⟩
                ·simp only[aj,bO];exact⟨_,[],[],[],rfl,⟨none,0,0,rfl,rfl,Zf _,ZG _,.inl ⟨rfl,rfl⟩⟩,⟨rfl,rfl⟩,rfl⟩
                ·simp only[bU,dm];exact⟨⟨trivial,ZG _,fun e h=>by cases h⟩,trivial⟩
              | [.slice (some a) len cap],h=>
                simp only at h;split at h
                ·rename_i hb;obtain⟨_,hlc,hcm⟩:=hb;simp only[if_true,Zy,XP]at h;obtain⟨elems,hel,rest,hrest,_⟩:=h;have hsz:P.cellsOf e=(f::fs).length:=hce;have hszp:0<P.cellsOf e:=by rw[hsz];simp
                 have hat:∀ i,i<cap->∃ ci y,w.cells? 0 (a.add (i*P.cellsOf e)) (P.cellsOf e)=some ci/\Xk enc P w 0 (fun _=>true) true fuel e ci=some y:=by
                  intro i hi;rcases Z7 i len with c|c
                  ·have:=mapM_some_get hel i i (Xg c);have hl:=mapM_some_length hel;simp only[XJ]at hl;rw[Zt Uc]at this;simp only[XP]at this;obtain⟨ci,h1,h2⟩:=this;exact⟨ci,_,h1,h2⟩
                  ·have:=mapM_some_get hrest (i-len) (i-len) (Xg Uc);have hl:=mapM_some_length hrest;simp only[XJ]at hl;rw[Zt Uc]at this;simp only[XP]at this;obtain⟨ci,h1,h2⟩:=this;rw[show len+(i-len)=i from by omega]at h1;exact⟨ci,_,h1,h2⟩
                 by_cases hc0:cap=0
                 ·subst hc0;have:len=0:=by omega
                  subst this;refine⟨[.s (f::fs).length []],[],?_,?_⟩
                  ·simp only[aj,bO];exact⟨_,[],[],[],rfl,⟨some a,0,0,rfl,rfl,Zf _,ZG _,.inl ⟨rfl,rfl⟩⟩,⟨rfl,rfl⟩,rfl⟩
                  ·simp only[bU,dm];exact⟨⟨trivial,ZG _,fun e h=>by cases h⟩,trivial⟩
                 ·obtain⟨c0,y0,z1,z2⟩:=hat 0 Uc;have z3:=(uX z1).2 0 hszp;have hz4:∃ v,w.cell? a=some v:=by
                   rw[Nat.zero_mul]at z3;have:(a.add 0).add 0=a:=rfl;rw[this]at z3;rw[z3];have:=(uX z1).1;exact⟨_,Zt Uc⟩
                  obtain⟨v0,hv0⟩:=hz4;have hblk:∃ cur ty fz,w.heap[a.block]?=some (.cells cur ty fz)/\a.spot=none:=by
                   unfold Yp at hv0;split at hv0
                   ·rename_i cur ty fz hh;refine⟨cur,ty,fz,hh,?_⟩;cases hsp:a.spot with
                    |none=>rfl
                    |some s=>simp[hsp]at hv0
                   ·cases hv0
                  obtain⟨cur,ty,fz,hh,hsp⟩:=hblk;have hcellat:∀ j,w.cell? ⟨a.block,j,none⟩=cur[j]?:=by
                   intro j;unfold Yp;simp[hh]
                  have hel2:∀ i,i<cap->∃ ci y,ci.length=P.cellsOf e/\(∀ kk,kk<P.cellsOf e->cur[a.off+i*P.cellsOf e+kk]?=ci[kk]?)/\Xk enc P w 0 (fun _=>true) true fuel e ci=some y:=by
                   intro i hi;obtain⟨ci,y,h1,h2⟩:=hat i hi;obtain⟨h3,h4⟩:=uX h1;refine⟨ci,y,h3,fun kk hkk=>?_,h2⟩;rw[<-h4 kk hkk,add_add' a hsp,hcellat]
                  have hfit:a.off+cap*P.cellsOf e<=cur.size:=by
                   obtain⟨ci,y,h1,h2,_⟩:=hel2 (cap-1) Uc;have:=h2 (P.cellsOf e-1) Uc;rw[Zt Uc]at this;have hlt:=(Zz.1 this).1;have:cap*P.cellsOf e=(cap-1)*P.cellsOf e+P.cellsOf e:=by
                    rw[<-We];congr 1;omega
                   omega
                  have hle:len*P.cellsOf e<=cap*P.cellsOf e:=ZJ _ hlc;obtain⟨es,S,k1,k2,k3⟩:=Eo (w:=w) (sz:=P.cellsOf e) (c:=bU (f::fs)) len ((cur.toList.drop a.off).take (len*P.cellsOf e)) (by simp only[List.length_take,Zo,Array.length_toList];omega) (fun i hi=>by
                   obtain⟨ci,y,h1,h2,h3⟩:=hel2 i Uc;obtain⟨rec,S,r1,r2⟩:=se k e (f::fs) he fuel ci y h3;refine⟨rec,S,?_,r2⟩;have:(((cur.toList.drop a.off).take (len*P.cellsOf e)).drop (i*P.cellsOf e)).take (P.cellsOf e)=ci:=by
                    apply List.ext_getElem?;intro kk;have hii:(i+1)*P.cellsOf e<=len*P.cellsOf e:=ZJ _ hi;rw[We]at hii;simp only[List.getElem?_take,Zv];by_cases ck:kk<P.cellsOf e
                    ·rw[VJ ck,VJ Uc, <-h2 kk ck,ZX];congr 1;omega
                    ·rw[VK ck,Z8 Uc]
                   rw[this];exact r1)
                  refine⟨[.s (f::fs).length es],a.block::S,?_,?_⟩
                  ·simp only[aj,bO];refine⟨_,[],a.block::S,[],rfl,⟨some a,len,cap,rfl,k1.symm,hlc,hcm,.inr ⟨a.block,a.off,cur,ty,fz,S,?_,hh,by rw[<-hsz];exact hfit,by rw[<-hsz];exact k2,rfl⟩⟩,⟨rfl,rfl⟩,by simp⟩;obtain⟨b,o,s⟩:=a;simp only at hsp;subst hsp;rfl
                  ·simp only[bU,dm];exact⟨⟨trivial,Uc,k3⟩,trivial⟩
                ·cases h
             ·cases hs
            ·cases hr
           ·cases hs
     | struct fs=>
       simp only at hs;generalize hfold:(fs.toList.foldl (fun acc fd=>match acc,shape P k fd.type with
        |some acc,some ts=>if fd.offset=acc.length/\P.cellsOf fd.type=ts.length then some (acc++ts)else none
        |_,_=>none) (some []))=r at hs
       cases r with
       |none=>cases hs
       | some ts0=>
         simp only at hs;by_cases hc0:P.cellsOf t=ts0.length
         case neg=>rw[VK hc0]at hs;cases hs
         rw[VJ hc0]at hs;cases hs;simp only at h;split at h
         ·rename_i hcl;simp only[Zy]at h;obtain⟨xs,hxs,_⟩:=h;have key:∀ (l:List Field) (acc:List Ty) (xs:List (DataW H×List MemPlace)),l.foldl (fun acc fd=>match acc,shape P k fd.type with
           |some acc,some ts=>if fd.offset=acc.length/\P.cellsOf fd.type=ts.length then some (acc++ts)else none
           |_,_=>none) (some acc)=some ts->l.mapM (fun f=>Xk enc P w 0 (fun _=>true) true fuel f.type ((cs.drop f.offset).take (P.cellsOf f.type)))=some xs->
           ∃ tl,ts=acc++tl/\∃ rec S,aj w rec ((cs.drop acc.length).take tl.length) S/\bU tl rec:=by
           intro l
           induction l with
           |nil=>intro acc xs h _;simp only[List.foldl_nil,Yd]at h;exact⟨[],by simp[h],[],[],by simp[aj],by simp[bU]⟩
           | cons fd l ih=>
             intro acc xs h hm;rw[Y1]at h;cases hsf:shape P k fd.type with
             |none=>simp only[hsf]at h;rw[pz (fun _=>rfl)]at h;cases h
             | some us=>
               simp only[hsf]at h;by_cases hc:fd.offset=acc.length/\P.cellsOf fd.type=us.length
               ·rw[VJ hc]at h;simp only[List.mapM_cons,Option.bind_eq_bind,XP]at hm;obtain⟨y,hy,ys,hys,_⟩:=hm;obtain⟨tl,e1,rec,S,r1,r2⟩:=ih (acc++us) ys h hys;obtain⟨rec0,S0,q1,q2⟩:=se k fd.type us hsf fuel _ y hy;refine⟨us++tl,by rw[e1,List.append_assoc],rec0++rec,S0++S,?_,qf q2 r2⟩;have e2:(cs.drop acc.length).take (us++tl).length=(cs.drop fd.offset).take (P.cellsOf fd.type)++(cs.drop (acc++us).length).take tl.length:=by
                 rw[hc.1,hc.2,Zh,Zh,List.take_add,Z9]
                rw[e2];exact q1.append r1
               ·rw[VK hc]at h;rw[pz (fun _=>rfl)]at h;cases h
          obtain⟨tl,e1,rec,S,r1,r2⟩:=key fs.toList [] xs hfold hxs;simp only[ZS]at e1;subst e1;refine⟨rec,S,?_,r2⟩;rw[hcell]at hcl
          simpa[<-hcl]using r1
         ·cases h
     |_=>simp at hs
end
end Go.V
namespace Go.V
open Go.ChangeShapes Go.WideShapes Go.ChangeAt Go.RowKit
def Do:Bool->ax->DV
 |true,rec=>.agg rec
 |false,[l]=>.one l
 |false,rec=>.agg rec
def xX:List (Bool×List Ty)->af->List DV
 |(b,_)::sh,r::rs=>Do b r::xX sh rs
 |_,_=>[]
def Al:List (Bool×List Ty)->af->Prop
 |[],[]=>True
 |(_,ts)::sh,r::rs=>bU ts r/\Al sh rs
 |_,_=>False
def AF (P:Program)(t:TypeId):Bool:=match P.underlying t with
 |some (.struct _)=>true
 |_=>false
def y7 (P:Program)(t:TypeId):Option (Bool×List Ty):=(shape P 12 t).map (AF P t, ·)
section
variable {P: Program} {w: World} {H: Type} {enc: TypeId × Value -> H}
def HP {t:TypeId}{b:Bool}{ts:List Ty}(hs:y7 P t=some (b,ts)){base:Nat}{v:Value}(hok:YR P w .any base t v){d:DataW H}{ps:List MemPlace} 
 (h:DataW.Trod enc P w 0 (fun _=>true) true t v d ps):∃ rec S,bU ts rec/\hH w (Do b rec) v S:=by
 unfold y7 at hs;cases hsh:shape P 12 t with
 |none=>simp[hsh]at hs
 | some ts'=>
   simp only[hsh,Yk,Yd,WQ]at hs;obtain⟨hb,rfl⟩:=hs;obtain⟨fuel,h⟩:=h;obtain⟨rec,S,h1,h2⟩:=se _ _ _ hsh _ _ _ h;refine⟨rec,S,h2,?_⟩;unfold AF at hb;cases hu:P.underlying t with
   |none=>simp[shape,hu]at hsh
   | some ud=>
     have hcell:∀ (hv:v.cells= #[v]) (hbf:b=false),∃ l,rec=[l]/\hH w (Do b rec) v S:=by
      intro hv hbf;rw[hv]at h1;have hl:=h1.length;simp only[Zr,Zs]at hl;obtain⟨l,rfl⟩:=List.length_eq_one_iff.1 hl.symm;refine⟨l,rfl,?_⟩;simp only[aj]at h1;obtain⟨v',vs',S1,S2,e,q1,⟨rfl,rfl⟩,rfl⟩:=h1;simp at e;obtain⟨rfl,_⟩:=e;rw[hbf]
      simpa[Do,hH]using q1
     cases ud with
     | struct fs=>
       simp only[hu]at hb;subst hb;simp only[YR,hu]at hok;obtain⟨cs,rfl,_,_⟩:=hok;exact⟨cs.toList,by simp,h1⟩
     | int k=>
       simp only[YR,hu,XQ,XR]at hok;split at hok<;>first|exact hok.elim|skip
       all_goals first|(obtain⟨l,rfl,h3⟩:=hcell rfl (by simpa[hu]using hb.symm);exact h3)|(rename_i hx _;cases hx)
     | bool=>
       simp only[YR,hu,XQ,XR]at hok;split at hok<;>first|exact hok.elim|skip
       all_goals first|(obtain⟨l,rfl,h3⟩:=hcell rfl (by simpa[hu]using hb.symm);exact h3)|(rename_i hx _;cases hx)
     | string=>
       simp only[YR,hu,XQ,XR]at hok;split at hok<;>first|exact hok.elim|skip
       all_goals first|(obtain⟨l,rfl,h3⟩:=hcell rfl (by simpa[hu]using hb.symm);exact h3)|(rename_i hx _;cases hx)
     | slice e=>
       simp only[YR,hu,XQ,XR]at hok;split at hok<;>first|exact hok.elim|skip
       all_goals first|(obtain⟨l,rfl,h3⟩:=hcell rfl (by simpa[hu]using hb.symm);exact h3)|(rename_i hx _;cases hx)
     |_=>simp[shape,hu]at hsh
def hH.arg {d:DV}{v:Value}{S:List Nat}(h:hH w d v S):mG w d v S:=by
 cases d with
 |one l=>exact h
 |agg l=>exact h
 |_=>exact h.elim
def xF:∀ (ts:List TypeId) (sh:List (Bool×List Ty)) (vs:List Value) (ds:List (DataW H)) (ps:List MemPlace) (base:Nat),(ts.map (y7 P))=sh.map some->
 (∀ (j:Nat) t v,ts[j]?=some t->vs[j]?=some v->YR P w .any base t v)->XS enc P w 0 (fun _=>true) true ts vs ds ps->
 ∃ recs,Al sh recs/\dz (fun _=>True) w (xX sh recs) vs
 | [],[],vs,ds,ps,base,_,_,h=>by
   obtain⟨rfl,rfl,rfl⟩:=trodAll_nil h;exact⟨[],trivial,rfl⟩
 |[],_::_,_,_,_,_,h,_,_=>by simp at h
 |_::_,[],_,_,_,_,h,_,_=>by simp at h
 | t::ts,(b,us)::sh,vs,ds,ps,base,hsh,hok,h=>by
   simp only[ZU,Vd]at hsh;obtain⟨v,vs',d,ds',p,q,rfl,rfl,rfl,h1,h2⟩:=trodAll_cons h;obtain⟨rec,S,r1,r2⟩:=HP hsh.1 (hok 0 t v rfl rfl) h1;obtain⟨recs,k1,k2⟩:=xF ts sh vs' ds' q base hsh.2 (fun j t' v' e1 e2=>hok (j+1) t' v' (by simpa using e1) (by simpa using e2)) h2;exact⟨rec::recs,⟨r1,k1⟩,v,vs',S,rfl,r2.arg,fun _ _=>trivial,k2⟩
def Same.below {w w':World}(h:Same (fun _=>True) w w'):Below w.heap.size w w':=⟨h.os,h.tape,h.output,h.size,fun k hk=>h.block k hk trivial⟩
def Same.keptBut {w w':World}(h:Same (fun _=>True) w w')(may:MemPlace->Prop):w.keptBut w' may:=by
 refine⟨h.os,h.output,fun i hi=>?_⟩;rw[h.block i hi trivial];cases w.heap[i]? with
 |none=>rfl
 | some o=>cases o with
   |cells c t fr=>exact⟨rfl,rfl,rfl,fun _ _=>rfl⟩
   |map es clock=>exact .inr ⟨rfl,rfl⟩
   |_=>rfl
def pc {w':World}(hl:laidOutB P=true)(hb:Below w.heap.size w w'):∀ (ts:List TypeId) (vs:List Value) (ds:List (DataW H)) (ps:List MemPlace),(ts.all fun t=>P.readableRec t&&decide (t<P.types.size))=true->
 XS enc P w 0 (fun _=>true) true ts vs ds ps->(∀ x∈ps,x.block<w.heap.size)->XS enc P w' 0 (fun b=>decide (b<w.heap.size)) true ts vs ds ps
 | [],vs,ds,ps,_,h,_=>by
   obtain⟨rfl,rfl,rfl⟩:=trodAll_nil h;exact trodAll_mk0
 | t::ts,vs,ds,ps,hr,h,hlt=>by
   obtain⟨v,vs',d,ds',p,q,rfl,rfl,rfl,h1,h2⟩:=trodAll_cons h;simp only[List.all_cons,Zb,VI]at hr;exact⟨p,q,Below.trod hl hr.1.1 hr.1.2 h1 hb (fun x hx=>hlt x (by simp[hx])),pc hl hb ts vs' ds' q (by simpa using hr.2) h2 (fun x hx=>hlt x (by simp[hx])),rfl⟩
def E5 {f:FuncId}{fn:Func}{s:ChangeSpec}{sh:List (Bool×List Ty)}{tb:TypeId}(hvars:s.vars=[])(hspec:∀ ds:List (DataW H),ds.length=fn.params.toList.length->s.fn H (ds++[])=⟨[.lit (.bool true)],ds,[]⟩) 
 (hrt:fn.resultTypes= #[tb]) (htb:P.underlying tb=some .bool) (hl:laidOutB P=true) (hread:(fn.params.toList.all fun t=>P.readableRec t&&decide (t<P.types.size))=true)
 (hsh:fn.params.toList.map (y7 P)=sh.map some) (hctr:∀ recs,Al sh recs->FI P f (xX sh recs) [.k true])
 {base:Nat} {args:Array Value} {ds gs:List (DataW H)} {before:List MemPlace} (hval:∀ (j:Nat) t v,fn.params[j]?=some t->args[j]?=some v->YR P w .any base t v)
 (hW:DataW.Whole enc P fn.params.toList s.vars false w args.toList ds gs before):
 Calls P f args w fun e w'=>∃ v,e=.returned v/\s.post enc P fn false true false false w args v w':=by
 have hW':=hW;obtain⟨p,q,hA,hV,rfl,hfz,hnd⟩:=hW;rw[hvars]at hV;obtain⟨rfl,rfl⟩:=trodVars_none hV;obtain⟨recs,h1,h2⟩:=xF fn.params.toList sh args.toList ds p base hsh (fun j t v e1 e2=>hval j t v (by simpa using e1) (by simpa using e2)) hA;have hc:=hctr recs h1 w args.toList h2;rw[Array.toArray_toList]at hc;refine hc.mono ?_;rintro e w' ⟨v,S,rfl,hr,_,_,hsame⟩;simp only[gd,hH,bO]at hr;obtain⟨rfl,_,_⟩:=hr;have hlen:∀ (ts:List TypeId) (vs:List Value) (ds:List (DataW H)) (ps:List MemPlace),XS enc P w 0 (fun _=>true) true ts vs ds ps->ds.length=ts.length:=by
  intro ts
  induction ts with
  |nil=>intro vs ds ps h;obtain⟨_,rfl,_⟩:=trodAll_nil h;rfl
  |cons t ts ih=>intro vs ds ps h;obtain⟨v,vs',d,ds',p,q,rfl,rfl,rfl,_,h2⟩:=trodAll_cons h;simp[ih _ _ _ h2]
 have e1:s.fn H (ds++[])=⟨[.lit (.bool true)],ds,[]⟩:=hspec ds (hlen _ _ _ _ hA);refine⟨_,rfl,ds,[],p++[],[],p,[],hW',?_,?_,?_,hsame.keptBut _,fun h=>by cases h⟩
 ·rw[e1,hrt];exact trodAll_mk1 (shut_bool htb true)
 ·rw[e1];exact pc hl hsame.below _ _ _ _ hread hA (fun x hx=>hW'.lt x (by simpa using hx))
 ·rw[e1,hvars];rfl
end
end Go.V
namespace Go.V
def cu {a b:Int}(h: -9223372036854775808<=a+b/\a+b<=9223372036854775807):bK .add Za a b=a+b:=YU _ h
def fC {a b:Int}(h: -9223372036854775808<=a-b/\a-b<=9223372036854775807):bK .sub Za a b=a-b:=YU _ h
def kf {α:Type}{es:List α}{d:α}{i:Nat}(hi:i<es.length):es.take (i+1)=es.take i++[es.getD i d]:=by
 rw[List.take_succ_eq_append_getElem hi,Zp,Zt hi];rfl
def mC {sz:Nat}{es:af}{n:Nat}{new:ax}(h:(es.getD n []).length=new.length):oJ (.s sz es) [(n,0)] new=es.set n new:=by
 simp only[oJ,lK,rowOf,List.take_zero,ZS,ZP];rw[List.drop_of_length_le Uc,Z4]
def fv {sz:Nat}{es:af}{n o m:Nat}(hn:n<es.length)(hl:o+m<=(es.getD n []).length):∃ rec o',bP (.s sz es) [(n,o)]=some (rec,o')/\o'+m<=rec.length:=by
 refine⟨es.getD n [],o,?_,hl⟩;rw[kg,Zp,Zt hn];rfl
def B5 {z:ax}{es:af}{i:Int}(hr:Wf z es)(h0:0<=i)(h1:i<es.length):ky am es i 0 z=es.getD i.toNat []:=(Py hr h0 h1).2.2.symm
def Ja {a b:Int}:(cT .eql a b=true)↔a=b:=by simp[cT]
def I9 {a b:Int}:(cT .eql a b=false)↔a≠b:=by simp[cT]
def Jk {a b:Int}:(cT .neq a b=true)↔a≠b:=by simp[cT]
def Jj {a b:Int}:(cT .neq a b=false)↔a=b:=by simp[cT]
def Ji {a b:Int}:(cT .lss a b=true)↔a<b:=by simp[cT]
def Jh {a b:Int}:(cT .lss a b=false)↔b<=a:=by simp[cT]
def Jg {a b:Int}:(cT .leq a b=true)↔a<=b:=by simp[cT]
def Jf {a b:Int}:(cT .leq a b=false)↔b<a:=by simp[cT]
def Je {a b:Int}:(cT .gtr a b=true)↔b<a:=by simp[cT]
def Jd {a b:Int}:(cT .gtr a b=false)↔a<=b:=by simp[cT]
def Jc {a b:Int}:(cT .geq a b=true)↔b<=a:=by simp[cT]
def Jb {a b:Int}:(cT .geq a b=false)↔a<b:=by simp[cT]
def abC {b:Bool}:(FY b=true)↔b=false:=by cases b<;>simp[FY]
def abB {b:Bool}:(FY b=false)↔b=true:=by cases b<;>simp[FY]
def F1 {a b:Bool}:(zM .eql a b=true)↔a=b:=by simp[zM]
def FZ {a b:Bool}:(zM .eql a b=false)↔a≠b:=by simp[zM]
def F3 {a b:Bool}:(zM .neq a b=true)↔a≠b:=by simp[zM]
def F2 {a b:Bool}:(zM .neq a b=false)↔a=b:=by simp[zM]
def az {i:Int}:adI 0 i=i.toNat:=ZP _
def nc {n:Nat}:(VF n:Int)=Ww n:=rfl
def sa {es:af}:oU es 0 es.length=es:=by simp[oU]
end Go.V
namespace Go.V
section
variable {P: Program} {cx: Cx} {G: Gh} {g: Gm} {a: Act} {w: World}
end
end Go.V
namespace Go.V
def Ts {Φ:Type}(_:Φ):MT:=fun _=>none
def noC {Φ:Type}(_:Φ):CT:=fun _ _=>none
section
variable {P: Program} {T: wE} {cx: Cx} {G: Gh} {g: Gm} {a: Act} {w: World}
def sf {fn:Func}{tmps:Array Value}{w':World}{vs':List Value}{ds':List DV}{S:List Nat}(k1:(fn.results.toList.mapM (nV tmps)).run P w'=.ok vs' w')(k2:bW w' ds' vs' S):
 ∃ v,(results fn tmps).run P w'=.ok v w'/\gd w' ds' v S:=by
 have hrun:(results fn tmps).run P w'=.ok (if h:vs'.toArray.size=1 then vs'.toArray[0]else .tuple vs'.toArray) w':=by
  rw[vS,Wl (m:=Sem)];simp only[Sem.run_bind,Sem.run_map,k1,Result.andThen_ok,Sem.run_pure]
 refine⟨_,hrun,?_⟩;have hl:∀ {ds:List DV} {vs:List Value} {S:List Nat},bW w' ds vs S->vs.length=ds.length:=by
  intro ds
  induction ds with
  |nil=>intro vs S h;simp only[bW]at h;simp[h.1]
  |cons d ds ih=>intro vs S h;simp only[bW]at h;obtain⟨v,vs',S1,S2,rfl,_,h2,_⟩:=h;simp[ih h2]
 have hlen:=hl k2;cases ds' with
 | nil=>
   have:vs'=[]:=Yz hlen;subst this;exact⟨[],by simp,k2⟩
 | cons d1 rest=>
   cases rest with
   | nil=>
     simp only[bW]at k2;obtain⟨v,vs'',S1,S2,rfl,q1,⟨rfl,rfl⟩,rfl⟩:=k2
     simpa[gd]using q1
   | cons d2 rest=>
     have:¬ vs'.toArray.size=1:=by simp at hlen;simp;omega
     rw[dif_neg this];exact⟨vs',rfl,k2⟩
def Km {Φ:Type}{F:Φ}:BD P (Ts F):=by intro f mk h;cases h
def OS {Φ:Type}{F:Φ}:xR P (noC F):=by intro f ds pre res h;cases h
end
end Go.V
namespace Go.V
abbrev PT :=FuncId->Option PK
abbrev NT :=FuncId->Option NK
abbrev OT :=FuncId->Option MO
def Tu {Φ:Type}(_:Φ):OT:=fun _=>none
def Ko {P:Program}{Φ:Type}{F:Φ}:BG P (Tu F):=by intro f mk h;cases h
def Tt {Φ:Type}(_:Φ):NT:=fun _=>none
def Kn {P:Program}{Φ:Type}{F:Φ}:BE P (Tt F):=by intro f mk h;cases h
def Tv {Φ:Type}(_:Φ):PT:=fun _=>none
def Kp {P:Program}{Φ:Type}{F:Φ}:BI P (Tv F):=by intro f mk h;cases h
def DK (r:Nat):Nat->List H->List Hv
 |_,[]=>[]
 |j,.own l::hs=>⟨0,0,none,.own l⟩::DK r (j+1) hs
 |j,h::hs=>⟨0,0,some (r*1000+j),h⟩::DK r (j+1) hs
def eI:Nat->List DV->VS
 |_,[]=>[]
 |p,.mp hs::ds=>.reg p (.one (.pt p 0)):: .root p true (DK p 0 hs)::eI (p+1) ds
 |p,d::ds=>.reg p (lR d)::eI (p+1) ds
def mpL:Nat->List DV->List (Nat×List H)
 |_,[]=>[]
 |p,.mp hs::ds=>(p,hs)::mpL (p+1) ds
 |p,_::ds=>mpL (p+1) ds
def hE:Nat->List DV->List fe->Nat->Option fe
 |p,.mp _::ds,q::ps,r=>if r=p then some q else hE (p+1) ds ps r
 |_,.mp _::_,[],_=>none
 |p,_::ds,ps,r=>hE (p+1) ds ps r
 |_,[],_,_=>none
def Ca {r:Nat}:∀ {hs:List H} {j i:Nat} {h:Hv},(DK r j hs)[i]?=some h->∃ c,hs[i]?=some c/\h.ver=0/\h.iv=0/\h.c=c/\(∀ l,c=.own l->h.org=none)/\((∀ l,c≠ .own l)->h.org=some (r*1000+(j+i)))
 |[],j,i,h,e=>by simp[DK]at e
 | c::hs,j,i,h,e=>by
   cases i with
   | zero=>
     cases c with
     |own l=>simp[DK]at e;subst e;exact⟨_,rfl,rfl,rfl,rfl,fun _ _=>rfl,fun k=>absurd rfl (k l)⟩
     |ro l=>simp[DK]at e;subst e;exact⟨_,rfl,rfl,rfl,rfl,(fun _ k=>by cases k),fun _=>rfl⟩
     |gone=>simp[DK]at e;subst e;exact⟨_,rfl,rfl,rfl,rfl,(fun _ k=>by cases k),fun _=>rfl⟩
   | succ i=>
     have:(DK r (j+1) hs)[i]?=some h:=by cases c<;>simpa[DK]using e
     obtain⟨c',q1,q2,q3,q4,q5,q6⟩:=Ca this;exact⟨c',by simpa using q1,q2,q3,q4,q5,fun k=>by rw[q6 k];congr 2;omega⟩
def vt {r:Nat}:∀ {hs:List H} {j:Nat},(DK r j hs).length=hs.length
 |[],_=>rfl
 |c::hs,j=>by cases c<;>simp[DK,vt (hs:=hs)]
section
variable {P: Program} {T: wE} {w: World} {ok: Nat -> Prop}
def fy.length:∀ {ds:List DV} {vs:List Value} {ps:List fe},fy w ok ds vs ps->vs.length=ds.length
 |[],vs,ps,h=>by simp only[fy]at h;simp[h.1]
 | d::ds,vs,ps,h=>by
   cases d with
   |mp hs=>obtain⟨p,ps',vs',rfl,rfl,_,h⟩:=h;simp[h.length]
   |one l=>obtain⟨v,vs',S,rfl,_,_,h⟩:=h;simp[fy.length h]
   |agg l=>obtain⟨v,vs',S,rfl,_,_,h⟩:=h;simp[fy.length h]
   |ptr l=>obtain⟨v,vs',S,rfl,_,_,h⟩:=h;simp[fy.length h]
   |fn f l=>obtain⟨v,vs',S,rfl,_,_,h⟩:=h;simp[fy.length h]
def HC:∀ {ds:List DV} {ps:List fe} {p r:Nat} {q:fe},hE p ds ps r=some q->p<=r/\r<p+ds.length
 |[],ps,p,r,q,h=>by simp[hE]at h
 | d::ds,ps,p,r,q,h=>by
   have step:∀ ps,hE (p+1) ds ps r=some q->p<=r/\r<p+(d::ds).length:=fun ps h=>by
    have:=HC h;simp;omega
   cases d with
   | mp hs=>
     cases ps with
     |nil=>simp[hE]at h
     | cons q' ps=>
       simp only[hE]at h;split at h
       ·simp;omega
       ·exact step _ h
   |_=>exact step ps h
def pE:∀ {ds:List DV} {vs:List Value} {ps:List fe} {p r:Nat} {q:fe},fy w ok ds vs ps->(hE p ds ps r=some q↔∃ k:Nat,(mpL p ds)[k]?=some (r,q.hs)/\ps[k]?=some q)
 |[],vs,ps,p,r,q,ha=>by simp[hE,mpL]
 | d::ds,vs,ps,p,r,q,ha=>by
   have mge:∀ {ds:List DV} {p k:Nat} {x:Nat×List H},(mpL p ds)[k]?=some x->p<=x.1:=by
    intro ds
    induction ds with
    |nil=>intro p k x h;simp[mpL]at h
    | cons d ds ih=>
      intro p k x h;cases d with
      | mp hs=>
        simp only[mpL]at h;cases k with
        |zero=>simp at h;subst h;exact Zf _
        |succ k=>simp at h;have:=ih h;omega
      |_=>have:=ih (p:=p+1) h;omega
   cases d with
   | mp hs=>
     obtain⟨p0,ps',vs',rfl,rfl,e,ha⟩:=ha;have ih:=pE (p:=p+1) (r:=r) (q:=q) ha;simp only[hE,mpL]
     constructor
     ·intro h;split at h
      ·rename_i c;cases h;exact⟨0,by simp[c,e],by simp⟩
      ·obtain⟨k,h1,h2⟩:=ih.1 h;exact⟨k+1,by simpa using h1,by simpa using h2⟩
     ·rintro⟨k,h1,h2⟩;cases k with
      |zero=>simp at h1 h2;rw[VJ h1.1.symm];rw[h2]
      | succ k=>
        simp at h1 h2;have:=mge h1;rw[VK (by simp only at this;omega)];exact ih.2 ⟨k,h1,h2⟩
   |one l=>obtain⟨v,vs',S,rfl,_,_,ha⟩:=ha;exact pE (p:=p+1) ha
   |agg l=>obtain⟨v,vs',S,rfl,_,_,ha⟩:=ha;exact pE (p:=p+1) ha
   |ptr l=>obtain⟨v,vs',S,rfl,_,_,ha⟩:=ha;exact pE (p:=p+1) ha
   |fn f l=>obtain⟨v,vs',S,rfl,_,_,ha⟩:=ha;exact pE (p:=p+1) ha
def pC:∀ {ds:List DV} {vs:List Value} {ps:List fe} (p:Nat),fy w ok ds vs ps->
 (∀ r,get (eI p ds) (.meta_ r)=(hE p ds ps r).map fun q=>.m q.hs.length true)/\
 (∀ r j,get (eI p ds) (.leaf r j)=(hE p ds ps r).bind fun q=>((DK r 0 q.hs)[j]?).map .h)/\
 (∀ d x,get (eI p ds) (.reg d)=some x->∃ i,d=p+i/\i<vs.length/\((∃ q,hE p ds ps d=some q/\x=.r (.one (.pt d 0))/\vs[i]?=some (.pointer (some ⟨q.b,q.off,none⟩)))\/(∃ dv v S,x=.r (lR dv)/\vs[i]?=some v/\mG w dv v S/\∀ b∈S,ok b)))
 | [],vs,ps,p,ha=>by
   refine⟨fun r=>rfl,fun r j=>rfl,fun d x h=>by cases h⟩
 | d::ds,vs,ps,p,ha=>by
   have other:∀ (v:Value) (vs':List Value) (S:List Nat),vs=v::vs'->mG w d v S->(∀ b∈S,ok b)->fy w ok ds vs' ps->(∀ r,hE p (d::ds) ps r=hE (p+1) ds ps r)->eI p (d::ds)=.reg p (lR d)::eI (p+1) ds->
    (∀ r,get (eI p (d::ds)) (.meta_ r)=(hE p (d::ds) ps r).map fun q=>.m q.hs.length true)/\
    (∀ r j,get (eI p (d::ds)) (.leaf r j)=(hE p (d::ds) ps r).bind fun q=>((DK r 0 q.hs)[j]?).map .h)/\
    (∀ d' x,get (eI p (d::ds)) (.reg d')=some x->∃ i,d'=p+i/\i<vs.length/\((∃ q,hE p (d::ds) ps d'=some q/\x=.r (.one (.pt d' 0))/\vs[i]?=some (.pointer (some ⟨q.b,q.off,none⟩)))\/(∃ dv v S,x=.r (lR dv)/\vs[i]?=some v/\mG w dv v S/\∀ b∈S,ok b))):=by
    intro v vs' S e h1 h2 h3 h4 h5;subst e;obtain⟨i1,i2,i3⟩:=pC (p+1) h3;rw[h5];refine⟨fun r=>by rw[h4, <-i1];simp[get,W.app],fun r j=>by rw[h4, <-i2];simp[get,W.app],fun d' x hx=>?_⟩;simp only[get,W.app]at hx;split at hx
    ·rename_i c;cases c;cases hx;exact⟨0,rfl,by simp,.inr ⟨d,v,S,rfl,rfl,h1,h2⟩⟩
    ·obtain⟨i,e1,e2,e3⟩:=i3 d' x hx;refine⟨i+1,Uc,by simpa using e2,?_⟩;rw[h4];rcases e3 with⟨q,k1,k2,k3⟩|⟨dv,v',S',k1,k2,k3,k4⟩;exact .inl ⟨q,k1,k2,by simpa using k3⟩;exact .inr ⟨dv,v',S',k1,by simpa using k2,k3,k4⟩
   cases d with
   | mp hs=>
     obtain⟨q,ps',vs',rfl,rfl,e,ha⟩:=ha;obtain⟨i1,i2,i3⟩:=pC (p+1) ha;subst e;have hp:hE (p+1) ds ps' p=none:=by
      cases h:hE (p+1) ds ps' p with
      |none=>rfl
      |some q=>have:=HC h;omega
     refine⟨fun r=>?_,fun r j=>?_,fun d' x hx=>?_⟩
     ·simp only[eI,get,W.app,hE];by_cases c:r=p
      ·subst c;simp[vt]
      ·simp[c,i1]
     ·simp only[eI,get,W.app,hE];by_cases c:r=p
      ·subst c;simp
      ·simp[c,i2]
     ·simp only[eI,get,W.app]at hx;split at hx
      ·rename_i c;cases c;cases hx;exact⟨0,rfl,by simp,.inl ⟨q,by simp[hE],rfl,rfl⟩⟩
      ·rename_i c;obtain⟨i,e1,e2,e3⟩:=i3 d' x hx;refine⟨i+1,Uc,by simpa using e2,?_⟩;have hne:d'≠p:=by omega
       rcases e3 with⟨q',k1,k2,k3⟩|⟨dv,v',S',k1,k2,k3,k4⟩;exact .inl ⟨q',by simp only[hE];rw[VK hne];exact k1,k2,by simpa using k3⟩;exact .inr ⟨dv,v',S',k1,by simpa using k2,k3,k4⟩
   |one l=>obtain⟨v,vs',S,e,h1,h2,h3⟩:=ha;exact other v vs' S e h1 h2 h3 (fun _=>rfl) rfl
   |agg l=>obtain⟨v,vs',S,e,h1,h2,h3⟩:=ha;exact other v vs' S e h1 h2 h3 (fun _=>rfl) rfl
   |ptr l=>obtain⟨v,vs',S,e,h1,h2,h3⟩:=ha;exact other v vs' S e h1 h2 h3 (fun _=>rfl) rfl
   |fn f l=>obtain⟨v,vs',S,e,h1,h2,h3⟩:=ha;exact other v vs' S e h1 h2 h3 (fun _=>rfl) rfl
open Classical in
def EX (n:Nat)(w:World)(ds:List DV)(vs:List Value)(ps:List fe)(h:MP w ds vs ps)(hn:ds.length<=n)(anc:Nat->Value)(hanc:∀ r q j l,hE 0 ds ps r=some q->q.hs[j]?=some (.ro l)->anc (r*1000+j)=q.val j):
 ∃ G,av ⟨n,w,fun b=>¬ kK ps b/\¬ oP ps b,anc,fun r=>(hE 0 ds ps r).map fun q=>(q.b,q.off),fun r=>((hE 0 ds ps r).map fun q=>q.hs.length).getD 0,fun _=>True⟩ G (get (eI 0 ds)) {tmps:=vs.toArray++YP (n-vs.toArray.size) undef,defers:=[]} w:=by
 have hl:=h.args.length;obtain⟨i1,i2,i3⟩:=pC 0 h.args;have ix:=fun {r q}=>pE (p:=0) (r:=r) (q:=q) h.args
 have mem:∀ {r q},hE 0 ds ps r=some q->q∈ps:=fun e=>by
  obtain⟨k,_,e2⟩:=ix.1 e;exact Zx e2
 have isO:∀ b,kK ps b->∃ x:Nat×Nat,∃ q l,hE 0 ds ps x.1=some q/\q.hs[x.2]?=some (.own l)/\b∈q.fp x.2:=by
  rintro b ⟨q,hq,j,l,h1,h2⟩;obtain⟨k,hk⟩:=Yt hq;have hlen:∀ {ds:List DV} {vs:List Value} {ps:List fe} {p:Nat},fy w (fun b=>¬ kK ps b/\¬ oP ps b) ds vs ps->True:=fun _=>trivial
  have key:∀ (ok:Nat->Prop) (ds:List DV) (vs:List Value) (ps:List fe) (p k:Nat) (q:fe),fy w ok ds vs ps->ps[k]?=some q->∃ r,(mpL p ds)[k]?=some (r,q.hs):=by
   intro ok ds
   induction ds with
   |nil=>intro vs ps p k q h e;simp only[fy]at h;rw[h.2]at e;simp at e
   | cons d ds ih=>
     intro vs ps p k q h e;cases d with
     | mp hs=>
       obtain⟨p0,ps',vs',rfl,rfl,e0,h⟩:=h;cases k with
       |zero=>simp at e;subst e;exact⟨p,by simp[mpL,e0]⟩
       |succ k=>simp at e;obtain⟨r,hr⟩:=ih vs' ps' (p+1) k q h e;exact⟨r,by simpa[mpL]using hr⟩
     |one l=>obtain⟨v,vs',S,rfl,_,_,h⟩:=h;exact ih vs' ps (p+1) k q h e
     |agg l=>obtain⟨v,vs',S,rfl,_,_,h⟩:=h;exact ih vs' ps (p+1) k q h e
     |ptr l=>obtain⟨v,vs',S,rfl,_,_,h⟩:=h;exact ih vs' ps (p+1) k q h e
     |fn f l=>obtain⟨v,vs',S,rfl,_,_,h⟩:=h;exact ih vs' ps (p+1) k q h e
  obtain⟨r,hr⟩:=key _ ds vs ps 0 k q h.args hk;exact⟨(r,j),q,l,ix.2 ⟨k,hr,hk⟩,h1,h2⟩
 let G:Gh:={
  loc:=fun r=>(hE 0 ds ps r).map fun q=>(q.b,q.off)
  val:=fun r j=>((hE 0 ds ps r).map fun q=>q.val j).getD undef
  fp:=fun r j=>((hE 0 ds ps r).map fun q=>q.fp j).getD []
  ow:=fun b=>if ho:kK ps b then some (.leaf (isO b ho).choose.1 (isO b ho).choose.2)else if oP ps b then some (.box b)else if b<w.heap.size then some .ro else none
  lead:=fun r=>((hE 0 ds ps r).map fun q=>q.b).getD 0}
 have ixne:∀ {r r' q q'},hE 0 ds ps r=some q->hE 0 ds ps r'=some q'->r≠r'->∃ k k':Nat,k≠k'/\ps[k]?=some q/\ps[k']?=some q':=by
  intro r r' q q' e1 e2 hne;obtain⟨k,a1,a2⟩:=ix.1 e1;obtain⟨k',b1,b2⟩:=ix.1 e2;refine⟨k,k',fun e=>?_,a2,b2⟩;subst e;have h:=a1.symm.trans b1;simp at h;exact hne h.1
 have owO:∀ r j q l,hE 0 ds ps r=some q->q.hs[j]?=some (.own l)->∀ b∈q.fp j,G.ow b=some (.leaf r j):=by
  intro r j q l e1 e2 b hb;have ho:kK ps b:=⟨q,mem e1,j,l,e2,hb⟩;simp only[G,dif_pos ho];obtain⟨q',l',f1,f2,f3⟩:=(isO b ho).choose_spec;generalize(isO b ho).choose=x at*;by_cases c:x.1=r
  ·rw[c,e1]at f1;cases f1;by_cases cj:x.2=j
   ·rw[c,cj]
   ·obtain⟨k,_,hk⟩:=ix.1 e1;exact absurd hb (h.disj k _ k j q q l' l hk hk f2 e2 (fun e=>cj (by cases e;rfl)) b f3)
  ·obtain⟨k,k',hne,hk,hk'⟩:=ixne f1 e1 c;exact absurd hb (h.disj k _ k' j q' q l' l hk hk' f2 e2 (fun e=>hne (by cases e;rfl)) b f3)
 have owP:∀ b,oP ps b->G.ow b=some (.box b):=by
  intro b hb;simp only[G,dif_neg (h.box b hb),VJ hb]
 have owR:∀ b,b<w.heap.size->¬ kK ps b/\¬ oP ps b->G.ow b=some .ro:=by
  intro b hb ⟨h1,h2⟩;simp only[G,dif_neg h1,VK h2,VJ hb]
 have cellq:∀ {r q},hE 0 ds ps r=some q->∃ cur ty,w.heap[q.b]?=some (.cells cur ty (0,0))/\q.off+q.hs.length<=cur.size/\∀ j,j<q.hs.length->cur[q.off+j]?=some (q.val j):=fun e=>h.cell _ (mem e)
 refine⟨G,rfl,by simp;omega,?_,?_,?_,?_,?_,?_,Same.refl _ _,?_,?_,?_,?_,?_,?_,fun _ _=>trivial⟩
 ·intro d x hx;obtain⟨i,rfl,e2,e3⟩:=i3 d x hx;have hv:∀ v,vs[i]?=some v->(vs.toArray++YP (n-vs.toArray.size) undef).getD (0+i) undef=v:=by
   intro v hv;simp only[Yw,ZP];rw[Array.getElem?_append_left (by simpa using e2)];simp[hv]
  refine⟨by show 0+i<n;omega,?_⟩;rcases e3 with⟨q,k1,k2,k3⟩|⟨dv,v,S,k1,k2,k3,k4⟩
  ·refine⟨_,k2,?_⟩;simp only[cK,gq];exact⟨q.b,q.off,by simp only[G,k1,Yk],hv _ k3⟩
  ·refine⟨_,k1,?_⟩;simp only;rw[hv _ k2];have tok:∀ b∈S,b<w.heap.size->G.ow b=some .ro:=fun b hb hlt=>owR b hlt (k4 b hb)
   cases dv with
   | one l=>
     simp only[lR,cK];have:=nW (γ:=gl (get (eI 0 ds))) (G:=G) [l] [v] S (by simp only[aj];exact⟨v,[],S,[],rfl,k3,⟨rfl,rfl⟩,by simp⟩) (fun b hb=>tok b hb (bO.lt _ _ _ k3 b hb));simp only[ZU,List.map_nil,bQ]at this;obtain⟨v',vs'',e,h3,_⟩:=this;cases e;exact h3
   | agg lls=>
     obtain⟨us,e,h1⟩:=k3;simp only[lR,cK];exact⟨us,e,nW _ _ S h1 (fun b hb=>tok b hb (aj.lt _ _ _ h1 b hb))⟩
   | ptr rec=>
     obtain⟨b,off,cur,ty,fz,S',e1,e2,e3,e4,rfl⟩:=k3;simp only[lR,cK];exact⟨b,off,cur,ty,fz,S',e1,e2,tok b (by simp) (Zz.1 e2).1,e3,e4,fun c hc=>tok c (by simp[hc]) (aj.lt _ _ _ e4 c hc)⟩
   | fn f caps=>
     obtain⟨us,e,h1⟩:=k3;simp only[lR,cK];refine⟨us,e,?_⟩;have key:∀ (caps:af) (us:List Value) (S':List Nat),hP w caps us S'->(∀ b∈S',b∈S)->dH G w (caps.map fun rec=>.rp rec 0) us:=by
      intro caps
      induction caps with
      |nil=>intro us S' h _;simp only[hP]at h;simp[dH,h.1]
      | cons r rs ih=>
        intro us S' h hsub;simp only[hP]at h;obtain⟨v,vs',S1,S2,rfl,q1,q2,rfl⟩:=h;obtain⟨b,off,cur,ty,fz,S3,e1,e2,e3,e4,rfl⟩:=q1;exact⟨v,vs',rfl,⟨b,off,cur,ty,fz,S3,e1,e2,tok b (hsub b (by simp)) (Zz.1 e2).1,e3,e4,fun c hc=>tok c (hsub c (by simp[hc])) (aj.lt _ _ _ e4 c hc)⟩,ih _ _ q2 (fun b hb=>hsub b (by simp[hb]))⟩
     exact key caps us S h1 (fun b hb=>hb)
   |mp hs=>exact k3.elim
 ·intro r k hk;rw[i1]at hk;cases e:hE 0 ds ps r with
  |none=>simp[e]at hk
  | some q=>
    simp[e]at hk;subst hk;obtain⟨cur,ty,f1,f2,f3⟩:=cellq e;refine⟨q.b,q.off,cur,ty,by simp[G,e],?_,f1,f2,fun j hj=>by simp[G,e,f3 j hj]⟩;rw[owP q.b ⟨q,mem e,rfl⟩];simp[G,e]
 ·intro r j x hx;rw[i2]at hx;cases e:hE 0 ds ps r with
  |none=>simp[e]at hx
  | some q=>
    simp only[e,YD,Zy]at hx;obtain⟨hv,e1,rfl⟩:=hx;obtain⟨c,k1,k2,k3,k4,k5,k6⟩:=Ca e1;refine⟨hv,q.hs.length,true,rfl,by rw[i1,e];rfl,(ZB.1 k1).1,?_⟩;unfold dO;rw[k4];cases c with
    | own l=>
      obtain⟨m1,m2,m3⟩:=h.own q (mem e) j l k1;simp only[G,e,Yk,Z6];exact⟨m1,m2,fun b hb=>⟨owO r j q l e k1 b hb,m3 b hb⟩⟩
    | ro l=>
      obtain⟨m1,m2⟩:=h.ro q (mem e) j l k1;simp only[G,e,Yk,Z6];exact⟨q.fp j,m1,fun b hb=>owR b (bO.lt _ _ _ m1 b hb) (m2 b hb)⟩
    |gone=>exact absurd k1 (h.gone q (mem e) j)
 ·intro r x hx;rw[i1]at hx;cases e:hE 0 ds ps r with
  |none=>simp[e]at hx
  |some q=>simp[e]at hx;exact⟨_,_,hx.symm⟩
 ·intro r b hb;cases e:hE 0 ds ps r with
  |none=>simp[G,e]at hb
  |some q=>exact⟨q.hs.length,by rw[i1,e];rfl⟩
 ·intro b t hb;simp only[G]at hb;split at hb
  ·rename_i ho;obtain⟨q,hq,j,l,e1,e2⟩:=ho;exact bO.lt _ _ _ (h.own q hq j l e1).1 b e2
  ·split at hb
   ·rename_i hp;obtain⟨q,hq,rfl⟩:=hp;obtain⟨cur,ty,f1,_⟩:=h.cell q hq;exact(Zz.1 f1).1
   ·split at hb
    ·rename_i c;exact c
    ·cases hb
 ·intro b hb hf;exact .inr (owR b hb hf)
 ·intro r j hv e i hi hl;rw[ap,i2]at e;cases e0:hE 0 ds ps r with
  |none=>simp[e0]at e
  | some q=>
    simp only[e0,YD,Zy]at e;obtain⟨hv',e1,e2⟩:=e;cases e2;obtain⟨c,k1,k2,k3,k4,k5,k6⟩:=Ca e1;obtain⟨l,hl⟩:=hl;rw[k4]at hl;cases c with
    |own l'=>rw[k5 l' rfl]at hi;cases hi
    | ro l'=>
      rw[k6 (by simp)]at hi;cases hi;rw[ZP];show _=anc _;rw[hanc r q j l' e0 k1];simp[G,e0]
    |gone=>rcases hl with e|e<;>cases e
 ·intro r x hx;cases e:hE 0 ds ps r with
  |none=>simp[e]at hx
  |some q=>exact⟨hx,by rw[i1,e];simp[e]⟩
 ·intro r b off hx;cases e:hE 0 ds ps r with
  |none=>simp[e]at hx
  | some q=>
    simp[e]at hx;obtain⟨rfl,rfl⟩:=hx;obtain⟨cur,ty,f1,f2,f3⟩:=cellq e;exact⟨cur,cur,ty,f1,f1,rfl,fun _ _=>rfl⟩
 ·intro r1 r2 k1 k2 b o1 o2 hne h1 h2 q1 q2;rw[i1]at h1 h2;cases e1:hE 0 ds ps r1 with
  |none=>simp[e1]at h1
  | some a1=>
    cases e2:hE 0 ds ps r2 with
    |none=>simp[e2]at h2
    | some a2=>
      simp[e1]at h1;simp[e2]at h2;simp[G,e1]at q1;simp[G,e2]at q2;obtain⟨rfl,rfl⟩:=q1;obtain⟨q2,rfl⟩:=q2;obtain⟨k,k',hk,m1,m2⟩:=ixne e1 e2 hne;have:=h.sep k k' a1 a2 hk m1 m2 q2.symm;omega
 ·intro r b off hx ha;cases e:hE 0 ds ps r with
  |none=>simp[G,e]at hx
  |some q=>simp[e]at ha
end
end Go.V
namespace Go.V
def xB {α:Type}(pr:(Unit->Prop)->Prop)(r:Nat):Nat->List H->(List H->Rd α)->Rd α
 |_,[],k=>k []
 | j,h0::hs,k=>gn r j fun h=>match h.c with
   | .own l=>xB pr r (j+1) hs fun cs=>k (.own l::cs)
   | .ro l=>match h0 with
     | .ro l0=>match h.org with
       |some i=>if Z5 i (r*1000+j)then .req (pr fun _=>l=l0) (xB pr r (j+1) hs fun cs=>k (.ro l0::cs))else .fail
       |none=>.fail
     |_=>.fail
   | .gone=>.fail
def Hw {α:Type}(pr:(Unit->Prop)->Prop)(os:Nat->List H):List (Nat×List H)->Nat->Rd α->Rd α
 |[],_,k=>k
 |(r,hs)::m,i,k=>xB pr r 0 hs fun cs=>.req (pr fun _=>cs=os i) (Hw pr os m (i+1) k)
def EB (T:wE)(O:EJ)(ts:List TypeId)(rvs:List ResultVar)(m:List (Nat×List H))(σ:VS)(res:List DV)(os:Nat->List H):Prop:=
 (yQ T O ts rvs fun ds srcs=>if bz srcs&&srcs.all (fun s=>m.all fun q=> !(s.1.beq q.1))then .req (O.pr fun _=>ds=res) (Hw O.pr os m 0 (.ret ()))else .fail).wpU (get σ) [] fun _ _=>True
def Nv (T:wE)(O:EJ)(ts:List TypeId)(rvs:List ResultVar)(m:List (Nat×List H))(res:List DV)(os:Nat->List H):Ex->VS->Prop
 | .normal,σ=>EB T O ts rvs m σ res os
 | .ret,σ=>EB T O ts rvs m σ res os
 | .exit _,_=>False
section
variable {P: Program} {T: wE} {cx: Cx} {G: Gh} {g: Gm} {a: Act} {w: World}
def Nk (hT:bG P T){Φ:Type}{F0:Φ}{ctF:Φ->CT}{mtF:Φ->MT}{ptF:Φ->PT}{ntF:Φ->NT}{otF:Φ->OT}(hct:xR P (ctF F0))(hmt:BD P (mtF F0))(hpt:BI P (ptF F0))(hnw:BE P (ntF F0))(hot:BG P (otF F0))(hm:P.follows .mixedOrders=true){f:FuncId}{fn:Func}{ds res:List DV}(n:Nat)(c:Code)(ts:List TypeId)(rvs:List ResultVar) 
 (hf:P.funcs[f]?=some fn) (hb:fn.body=some c) (hnt:fn.ntmps=n) (hts:fn.resultTypes.toList=ts) (hrv:fn.results.toList=rvs) (hn:YC ds.length n=true)
 (h:∀ O r F,O=am->r=res->F=F0->m9 T O ⟨ctF F,mtF F,ptF F,ntF F,otF F⟩ n [] c (JG T O ts rvs r) (dM 0 ds)):FI P f ds res:=by
 subst hnt hts hrv;replace h:=h am res F0 rfl rfl rfl;replace hn:=Y9 hn;intro w vs hargs;refine calls_of_wp hf hb ?_;refine YJ ?_ (cY (cx:=⟨fn.ntmps,w,fun _=>True,fun _=>undef,fun _=>none,fun _=>0,fun _=>True⟩) hT (ct:=⟨ctF F0,mtF F0,ptF F0,ntF F0,otF F0⟩) ⟨hct,hmt,hpt,hnw,hot⟩ hm rfl (an:=[]) (fun r x e=>by cases e) c _ _ _ w h (AB fn.ntmps w ds vs hargs hn));rintro e a' w' ⟨ex,σ',rfl,hq',G,hS⟩;have hq:xP T am fn.resultTypes.toList fn.results.toList σ' res:=by
  cases ex with
  |normal=>exact hq'
  |ret=>exact hq'
  |exit i=>exact hq'.elim
 have hex:ex=.normal\/ex=.ret:=by
  cases ex with
  |normal=>exact .inl rfl
  |ret=>exact .inr rfl
  |exit i=>exact hq'.elim
 unfold xP at hq;obtain⟨ls,u,t,h1,_⟩:=Rd.wpU_runs hq;obtain⟨ds',vs',srcs,S,ls',k1,k2,k3,k4,k5⟩:=kG hS _ _ _ _ _ (mw hT (fun _ _ _ h=>h) h1);split at k5
 case isFalse=>exact k5.elim
 rename_i hd;simp only[Rd.Runs]at k5;have hres0:ds'=res:=k5.1;subst hres0;obtain⟨v,hrun,hres⟩:=sf k1 k2;have hfresh:∀ b∈S,w.heap.size<=b/\ed w' b:=by
  intro b hb;obtain⟨u,r,j,m1,m2⟩:=k4 b hb;refine⟨?_,u⟩;rcases Z7 b w.heap.size with hlt|hge
  ·rcases hS.frow b hlt trivial with e|e<;>rw[m2]at e<;>cases e
  ·exact hge
 have fin:a'.defers=[]/\∃ v,(results fn a'.tmps).run P w'=.ok v w'/\∃ v' S,XT v=.returned v'/\gd w' ds' v' S/\S.Nodup/\(∀ b∈S,w.heap.size<=b/\ed w' b)/\Same (fun _=>True) w w':=
  ⟨hS.defers,_,hrun,_,S,rfl,hres,k3 hd,hfresh,hS.frame⟩
 rcases hex with rfl|rfl;exact fin;exact fin
def nP {α:Type}{r:Nat}:∀ (hs:List H) (j:Nat) (k:List H->Rd α) (ls:List Loc) (out:α),(xB kY r j hs k).Runs g ls out->
 ∃ cs ls',(k cs).Runs g ls' out/\cs.length=hs.length/\∀ (i:Nat) c,cs[i]?=some c->∃ hv,g (.leaf r (j+i))=some (.h hv)/\hv.c=c/\(match c with
  | .own _=>True
  | .ro l=>hs[i]?=some (.ro l)/\hv.org=some (r*1000+(j+i))
  | .gone=>False)
 |[],j,k,ls,out,h=>⟨[],ls,h,rfl,fun i c e=>by simp at e⟩
 | h0::hs,j,k,ls,out,h=>by
   obtain⟨hv,ls2,_,q2,hk⟩:=bD (k:=fun hh=>match hh.c with
    | .own l=>xB kY r (j+1) hs fun cs=>k (.own l::cs)
    | .ro l=>match(generalizing:=false) h0 with
      | .ro l0=>match hh.org with
        |some i=>if Z5 i (r*1000+j)then .req (kY fun _=>l=l0) (xB kY r (j+1) hs fun cs=>k (.ro l0::cs))else .fail
        |none=>.fail
      |_=>.fail
    | .gone=>.fail) h
   cases hc:hv.c with
   |gone=>simp[hc,Rd.Runs]at hk
   | own l=>
     simp only[hc]at hk;obtain⟨cs,ls3,e1,e2,e3⟩:=nP hs (j+1) _ _ _ hk;refine⟨_,ls3,e1,by simp[e2],fun i c e=>?_⟩;cases i with
     |zero=>simp at e;subst e;exact⟨hv,q2,hc,trivial⟩
     | succ i=>
       simp at e;obtain⟨hv',k1,k2,k3⟩:=e3 i c e;refine⟨hv',by rw[show j+(i+1)=j+1+i from by omega];exact k1,k2,?_⟩;cases c with
       |own l=>trivial
       |ro l=>exact⟨by simpa using k3.1,by rw[show j+(i+1)=j+1+i from by omega];exact k3.2⟩
       |gone=>exact k3
   | ro l=>
     simp only[hc]at hk;cases h0 with
     |own l0=>exact hk.elim
     |gone=>exact hk.elim
     | ro l0=>
       simp only at hk;cases ho:hv.org with
       |none=>simp[ho,Rd.Runs]at hk
       | some i0=>
         simp only[ho]at hk;split at hk
         ·rename_i hb;have hi:=Ys hb;obtain⟨hl,hk⟩:=hk;have hl:l=l0:=hl;subst hl hi;obtain⟨cs,ls3,e1,e2,e3⟩:=nP hs (j+1) _ _ _ hk;refine⟨_,ls3,e1,by simp[e2],fun i c e=>?_⟩;cases i with
          |zero=>simp at e;subst e;exact⟨hv,q2,hc,by simp,ho⟩
          | succ i=>
            simp at e;obtain⟨hv',k1,k2,k3⟩:=e3 i c e;refine⟨hv',by rw[show j+(i+1)=j+1+i from by omega];exact k1,k2,?_⟩;cases c with
            |own l=>trivial
            |ro l=>exact⟨by simpa using k3.1,by rw[show j+(i+1)=j+1+i from by omega];exact k3.2⟩
            |gone=>exact k3
         ·exact hk.elim
def td {α:Type}{os:Nat->List H}:∀ (m:List (Nat×List H)) (i:Nat) (k:Rd α) (ls:List Loc) (out:α),(Hw kY os m i k).Runs g ls out->
 ∀ (n r:Nat) hs,m[n]?=some (r,hs)->(os (i+n)).length=hs.length/\∀ (j:Nat) c,(os (i+n))[j]?=some c->∃ hv,g (.leaf r j)=some (.h hv)/\hv.c=c/\(match c with
  | .own _=>True
  | .ro l=>hs[j]?=some (.ro l)/\hv.org=some (r*1000+j)
  | .gone=>False)
 |[],i,k,ls,out,h=>fun n r hs e=>by simp at e
 | (r0,hs0)::m,i,k,ls,out,h=>by
  obtain⟨cs,ls2,h1,h2,h3⟩:=nP _ _ _ _ _ h;obtain⟨he,h1⟩:=h1;have he:cs=os i:=he;intro n r hs e;cases n with
  | zero=>
    simp at e;obtain⟨rfl,rfl⟩:=e;rw[Yi, <-he];refine⟨h2,fun j c hc=>?_⟩;have:=h3 j c hc
    simpa using this
  | succ n=>
    simp at e;have:=td m (i+1) k _ _ h1 n r hs e;rw[show i+(n+1)=i+1+n from by omega];exact this
def nN {w:World}{ok:Nat->Prop}:∀ {ds:List DV} {vs:List Value} {ps:List fe} {p k:Nat} {q:fe},fy w ok ds vs ps->ps[k]?=some q->∃ r,(mpL p ds)[k]?=some (r,q.hs)
 |[],vs,ps,p,k,q,h,e=>by simp only[fy]at h;rw[h.2]at e;simp at e
 | d::ds,vs,ps,p,k,q,h,e=>by
   cases d with
   | mp hs=>
     obtain⟨p0,ps',vs',rfl,rfl,e0,h⟩:=h;cases k with
     |zero=>simp at e;subst e;exact⟨p,by simp[mpL,e0]⟩
     |succ k=>simp at e;obtain⟨r,hr⟩:=nN (p:=p+1) h e;exact⟨r,by simpa[mpL]using hr⟩
   |one l=>obtain⟨v,vs',S,rfl,_,_,h⟩:=h;exact nN (p:=p+1) h e
   |agg l=>obtain⟨v,vs',S,rfl,_,_,h⟩:=h;exact nN (p:=p+1) h e
   |ptr l=>obtain⟨v,vs',S,rfl,_,_,h⟩:=h;exact nN (p:=p+1) h e
   |fn f l=>obtain⟨v,vs',S,rfl,_,_,h⟩:=h;exact nN (p:=p+1) h e
open Classical in
def Ef (hT:bG P T){Φ:Type}{F0:Φ}{ctF:Φ->CT}{mtF:Φ->MT}{ptF:Φ->PT}{ntF:Φ->NT}{otF:Φ->OT}(hct:xR P (ctF F0))(hmt:BD P (mtF F0))(hpt:BI P (ptF F0))(hnw:BE P (ntF F0))(hot:BG P (otF F0))(hm:P.follows .mixedOrders=true){f:FuncId}{fn:Func}{ds res:List DV}{outs:List (List H)}(n:Nat)(c:Code)(ts:List TypeId)(rvs:List ResultVar) 
 (hf:P.funcs[f]?=some fn) (hb:fn.body=some c) (hnt:fn.ntmps=n) (hts:fn.resultTypes.toList=ts) (hrv:fn.results.toList=rvs) (hn:YC ds.length n=true) (hlo:(mpL 0 ds).length=outs.length) (hl0:(mpL 0 ds).all (fun q=>q.2.length.ble 999)=true)
 (h:∀ O r os F,O=am->r=res->os=(fun i=>outs.getD i [])->F=F0->m9 T O ⟨ctF F,mtF F,ptF F,ntF F,otF F⟩ n ((mpL 0 ds).map (·.1)) c (Nv T O ts rvs (mpL 0 ds) r os) (eI 0 ds)):xV P f ds outs res:=by
 subst hnt hts hrv;replace h:=h am res _ F0 rfl rfl rfl rfl;replace hn:=Y9 hn;intro w vs ps hpre;have ix:=fun {r q}=>pE (p:=0) (r:=r) (q:=q) hpre.args
 have hlt:∀ {r q},hE 0 ds ps r=some q->q.hs.length<=999:=by
  intro r q e;obtain⟨k,e1,_⟩:=ix.1 e;have:=ZV.1 hl0 _ (Zx e1);exact Y9 this
 let anc:Nat->Value:=fun i=>((hE 0 ds ps (i/1000)).map fun q=>q.val (i%1000)).getD undef
 have hanc:∀ r q j l,hE 0 ds ps r=some q->q.hs[j]?=some (.ro l)->anc (r*1000+j)=q.val j:=by
  intro r q j l e e1;have h1:=(ZB.1 e1).1;have h2:=hlt e;have h3:(r*1000+j)/1000=r:=by omega
  have h4:(r*1000+j)%1000=j:=by omega
  simp only[anc,h3,h4,e,Yk,Z6]
 refine calls_of_wp hf hb ?_;have hini:=EX fn.ntmps w ds vs ps hpre hn anc hanc;refine YJ ?_ (cY (cx:=⟨fn.ntmps,w,fun b=>¬ kK ps b/\¬ oP ps b,anc,fun r=>(hE 0 ds ps r).map fun(q:fe)=>(q.b,q.off),fun r=>((hE 0 ds ps r).map fun(q:fe)=>q.hs.length).getD 0,fun _=>True⟩) hT (ct:=⟨ctF F0,mtF F0,ptF F0,ntF F0,otF F0⟩) ⟨hct,hmt,hpt,hnw,hot⟩ hm rfl (an:=(mpL 0 ds).map (·.1)) (fun r x e=>by
  cases e0:hE 0 ds ps r with
  |none=>simp[e0]at e
  |some q=>obtain⟨k,e1,_⟩:=ix.1 e0;exact ZW.2 ⟨_,Zx e1,rfl⟩) c _ _ _ w h hini)
 rintro e a' w' ⟨ex,σ',rfl,hq',G,hS⟩;have hq:EB T am fn.resultTypes.toList fn.results.toList (mpL 0 ds) σ' res (fun i=>outs.getD i []):=by
  cases ex with
  |normal=>exact hq'
  |ret=>exact hq'
  |exit i=>exact hq'.elim
 have hex:ex=.normal\/ex=.ret:=by
  cases ex with
  |normal=>exact .inl rfl
  |ret=>exact .inr rfl
  |exit i=>exact hq'.elim
 unfold EB at hq;obtain⟨ls,u,t,h1,_⟩:=Rd.wpU_runs hq;obtain⟨ds',vs',srcs,Sr,ls',k1,k2,k3,k4,k5⟩:=kG hS _ _ _ _ _ (mw hT (fun _ _ _ h=>h) h1);split at k5
 case isFalse=>exact k5.elim
 rename_i hd;simp only[Zb]at hd;obtain⟨Qu,hd2⟩:=hd;obtain⟨hres0,k5⟩:=k5;have hres0:ds'=res:=hres0;subst hres0;have o1:=td _ _ _ _ _ k5;obtain⟨v,hrun,hres⟩:=sf k1 k2;have plen:ps.length=outs.length:=by
  rw[<-hlo];have key:∀ {ds:List DV} {vs:List Value} {ps:List fe} {p:Nat} {ok:Nat->Prop},fy w ok ds vs ps->ps.length=(mpL p ds).length:=by
   intro ds
   induction ds with
   |nil=>intro vs ps p ok h;simp only[fy]at h;simp[h.2,mpL]
   | cons d ds ih=>
     intro vs ps p ok h;cases d with
     |mp hs=>obtain⟨p0,ps',vs',rfl,rfl,_,h⟩:=h;simp[mpL,ih (p:=p+1) h]
     |one l=>obtain⟨v,vs',S,rfl,_,_,h⟩:=h;exact ih (p:=p+1) h
     |agg l=>obtain⟨v,vs',S,rfl,_,_,h⟩:=h;exact ih (p:=p+1) h
     |ptr l=>obtain⟨v,vs',S,rfl,_,_,h⟩:=h;exact ih (p:=p+1) h
     |fn f l=>obtain⟨v,vs',S,rfl,_,_,h⟩:=h;exact ih (p:=p+1) h
  exact key hpre.args
 let pst:Nat->fe:=fun k=>
  { b:=(ps.getD k ⟨0,0,[],fun _=>undef,fun _=>[]⟩).b,off:=(ps.getD k ⟨0,0,[],fun _=>undef,fun _=>[]⟩).off,hs:=outs.getD k [],
    val:=fun j=>G.val ((mpL 0 ds).getD k (0,[])).1 j,
    fp:=fun j=>match(outs.getD k [])[j]? with
     |some (.own _)=>G.fp ((mpL 0 ds).getD k (0,[])).1 j
     |_=>(ps.getD k ⟨0,0,[],fun _=>undef,fun _=>[]⟩).fp j}
 have info:∀ (k:Nat) q',((Ze ps.length).map pst)[k]?=some q'->∃ q r,ps[k]?=some q/\(mpL 0 ds)[k]?=some (r,q.hs)/\hE 0 ds ps r=some q/\q'=pst k/\q'.b=q.b/\q'.off=q.off/\outs[k]?=some q'.hs/\q'.hs.length=q.hs.length/\(∀ j,q'.val j=G.val r j)/\(∀ j l,q'.hs[j]?=some (.own l)->q'.fp j=G.fp r j)/\
  ∀ (j:Nat) c,q'.hs[j]?=some c->∃ hv,get σ' (.leaf r j)=some (.h hv)/\hv.c=c/\(match c with
   | .own _=>True
   | .ro l=>q.hs[j]?=some (.ro l)/\hv.org=some (r*1000+j)
   | .gone=>False):=by
  intro k q' e;rw[ZC,Zy]at e;obtain⟨k',e1,rfl⟩:=e;obtain⟨hk,rfl⟩:=ZB.1 e1;simp only[XJ]at hk;simp only[List.getElem_range];have hq:ps[k]?=some ps[k]:=Zt hk;obtain⟨r,hr⟩:=nN (p:=0) hpre.args hq;have hpa:hE 0 ds ps r=some ps[k]:=ix.2 ⟨k,hr,hq⟩;have hout:outs[k]?=some outs[k]:=Zt Uc;have g1:ps.getD k ⟨0,0,[],fun _=>undef,fun _=>[]⟩=ps[k]:=by simp[ZE,hq]
  have g2:outs.getD k []=outs[k]:=by simp[ZE,hout]
  have g3:(mpL 0 ds).getD k (0,[])=(r,ps[k].hs):=by simp[ZE,hr]
  obtain⟨m1,m2⟩:=o1 k r _ hr;rw[ZP]at m1 m2;refine⟨ps[k],r,hq,hr,hpa,trivial,by simp only[pst,g1],by simp only[pst,g1],by simp only[pst,g2];exact hout,by simp only[pst];exact m1,fun j=>by simp only[pst,g3],fun j l e=>?_,fun j c e=>?_⟩
  ·simp only[pst]at e ⊢;rw[e];simp only[g3]
  ·exact m2 j c e
 have meta_:∀ {r q},hE 0 ds ps r=some q->G.loc r=some (q.b,q.off)/\get σ' (.meta_ r)=some (.m q.hs.length true):=by
  intro r q e;have:=hS.aloc r (q.b,q.off) (by simp[e])
  simpa[e]using this
 have mem:∀ q'∈(Ze ps.length).map pst,∃ k:Nat,((Ze ps.length).map pst)[k]?=some q':=fun q' hq=>by
  obtain⟨k,hk⟩:=Yt hq;exact⟨k,hk⟩
 have ownTok:∀ b,kK ((Ze ps.length).map pst) b->∃ r j q,hE 0 ds ps r=some q/\G.ow b=some (.leaf r j)/\ed w' b:=by
  rintro b ⟨q',hq,j,l,e1,e2⟩;obtain⟨k,hk⟩:=mem q' hq;obtain⟨q,r,i1,i2,i3,i4,i5,i6,i7,i8,i9,i10,i11⟩:=info k q' hk;obtain⟨hv,m1,m2,_⟩:=i11 j _ e1;rw[i10 j l e1]at e2;have:=hS.hok (ap.2 m1);simp only[dO,m2]at this;exact⟨r,j,q,i3,this.2.2 b e2⟩
 have ptrTok:∀ b,oP ps b->∃ k,G.ow b=some (.box k):=by
  rintro b ⟨q,hq,rfl⟩;obtain⟨k,hk⟩:=Yt hq;obtain⟨r,hr⟩:=nN (p:=0) hpre.args hk;obtain⟨f1,f2⟩:=meta_ (ix.2 ⟨k,hr,hk⟩);obtain⟨b',off',cur,ty,z1,z2,_⟩:=hS.boxes r _ f2;rw[f1]at z1;cases z1;exact⟨_,z2⟩
 have own:∀ b r j,ed w' b->G.ow b=some (.leaf r j)->ed w' b/\(w.heap.size<=b\/kK ps b):=by
  intro b r j hu ht;refine⟨hu,?_⟩;rcases Z7 b w.heap.size with hlt|hge
  ·by_cases c1:kK ps b;exact .inr c1
   ·by_cases c2:oP ps b
    ·obtain⟨k,hk⟩:=ptrTok b c2;rw[hk]at ht;cases ht
    ·rcases hS.frow b hlt ⟨c1,c2⟩with e|e<;>rw[ht]at e<;>cases e
  ·exact .inl hge
 have post:FN w ps outs w' ((Ze ps.length).map pst) Sr:=by
  refine⟨by simp,?_,?_,?_,?_,?_,?_,⟨k3 Qu,?_⟩,?_,hS.frame,?_⟩
  ·intro k p p' hp hp';obtain⟨q,r,i1,i2,i3,i4,i5,i6,i7,i8,_⟩:=info k p' hp';rw[hp]at i1;cases i1;exact⟨i5,i6,i7,i8⟩
  ·intro q' hq;obtain⟨k,hk⟩:=mem q' hq;obtain⟨q,r,i1,i2,i3,i4,i5,i6,i7,i8,i9,_⟩:=info k q' hk;obtain⟨f1,f2⟩:=meta_ i3;obtain⟨b',off',cur,ty,z1,z2,z3,z4,z5⟩:=hS.boxes r _ f2;rw[f1]at z1;cases z1;exact⟨cur,ty,by rw[i5];exact z3,fun j hj=>by rw[i6,i9];exact z5 j Uc⟩
  ·intro q' hq j l e;obtain⟨k,hk⟩:=mem q' hq;obtain⟨q,r,i1,i2,i3,i4,i5,i6,i7,i8,i9,i10,i11⟩:=info k q' hk;obtain⟨hv,m1,m2,_⟩:=i11 j _ e;have:=hS.hok (ap.2 m1);simp only[dO,m2]at this;rw[i9,i10 j l e];exact⟨this.1,this.2.1⟩
  ·intro k p p' j l hp hp' e;obtain⟨q,r,i1,i2,i3,i4,i5,i6,i7,i8,i9,i10,i11⟩:=info k p' hp';rw[hp]at i1;cases i1;obtain⟨hv,m1,m2,m3,m4⟩:=i11 j _ e;refine⟨m3,?_⟩;rw[i9,hS.anc r j hv (ap.2 m1) _ m4 ⟨l,.inr m2⟩];exact hanc r p j l i3 m3
  ·intro q' hq j e;obtain⟨k,hk⟩:=mem q' hq;obtain⟨q,r,i1,i2,i3,i4,i5,i6,i7,i8,i9,i10,i11⟩:=info k q' hk;obtain⟨hv,m1,m2,m3⟩:=i11 j _ e;exact m3
  ·intro k j k' j' p p' l l' hp hp' e e' hne b hb hb';obtain⟨q,r,i1,i2,i3,i4,i5,i6,i7,i8,i9,i10,i11⟩:=info k p hp;obtain⟨q2,r2,i1',i2',i3',i4',i5',i6',i7',i8',i9',i10',i11'⟩:=info k' p' hp';obtain⟨hv,m1,m2,_⟩:=i11 j _ e;obtain⟨hv',m1',m2',_⟩:=i11' j' _ e';rw[i10 j l e]at hb;rw[i10' j' l' e']at hb';have t1:=hS.hok (ap.2 m1);simp only[dO,m2]at t1;have t2:=hS.hok (ap.2 m1');simp only[dO,m2']at t2;have u1:=(t1.2.2 b hb).1;have u2:=(t2.2.2 b hb').1;rw[u1]at u2;cases u2;have hkk:k=k':=by
    rw[i3]at i3';cases i3';by_cases c:k=k';exact c
    ·have:=hpre.sep k k' q q c i1 i1' rfl;have:=(ZB.1 e).1;omega
   subst hkk;exact hne rfl
  ·intro b hb ho;obtain⟨r,j,q,e1,e2,_⟩:=ownTok b ho;obtain⟨_,r',j',m1,m2⟩:=k4 b hb;rw[m2]at e2;cases e2;obtain⟨k,e3,_⟩:=ix.1 e1;have:=ZV.1 (ZV.1 hd2 _ m1) _ (Zx e3);simp at this
  ·intro b hb;rcases hb with hb|hb
   ·obtain⟨hu,r,j,_,m2⟩:=k4 b hb;exact own b r j hu m2
   ·obtain⟨r,j,q,_,m2,hu⟩:=ownTok b hb;exact own b r j hu m2
  ·rintro b ⟨q,hq,rfl⟩;obtain⟨k,hk⟩:=Yt hq;obtain⟨r,hr⟩:=nN (p:=0) hpre.args hk;have hpa:=ix.2 ⟨k,hr,hk⟩;obtain⟨c0,c1,ty,z1,z2,z3,z4⟩:=hS.afr r q.b q.off (by simp[hpa]);refine⟨c0,c1,ty,z1,z2,z3,fun i hi=>z4 i (fun r' off' e=>?_)⟩;cases e0:hE 0 ds ps r' with
   |none=>simp[e0]at e
   | some q2=>
     simp[e0]at e ⊢;obtain⟨e1,rfl⟩:=e;obtain⟨k2,_,hk2⟩:=ix.1 e0;exact hi q2 (Zx hk2) e1
 have fin:a'.defers=[]/\∃ v,(results fn a'.tmps).run P w'=.ok v w'/\∃ v' Sr ps',XT v=.returned v'/\gd w' ds' v' Sr/\FN w ps outs w' ps' Sr:=
  ⟨hS.defers,_,hrun,_,Sr,_,rfl,hres,post⟩
 rcases hex with rfl|rfl;exact fin;exact fin
def vG {α:Type}(r:Nat):Nat->Nat->(List H->Rd α)->Rd α
 |_,0,k=>k []
 | j,m+1,k=>gn r j fun h=>match h.c with
   | .own (.v x)=>vG r (j+1) m fun hs=>k (.own (.v x)::hs)
   | .ro l=>vG r (j+1) m fun hs=>k (.ro l::hs)
   |_=>.fail
def EA (O:EJ)(rvs:List ResultVar)(σ:VS)(hs:List H):Prop:=
 match rvs with
 | [.tmp t]=>((Bw t fun v=>match v with
    | .one (.pt r 0)=>.get (.meta_ r) fun
      |some (.m k true)=>vG r 0 k fun hs'=>.req (O.pr fun _=>hs'=hs) (.ret ())
      |_=>.fail
    |_=>.fail):Rd Unit).wpU (get σ) [] fun _ _=>True
 |_=>False
def RB (O:EJ)(rvs:List ResultVar)(hs:List H):Ex->VS->Prop
 | .normal,σ=>EA O rvs σ hs
 | .ret,σ=>EA O rvs σ hs
 | .exit _,_=>False
def s8 {α:Type}{r:Nat}:∀ (m j:Nat) (k:List H->Rd α) (ls:List Loc) (out:α),(vG r j m k).Runs g ls out->
 ∃ hs ls',(k hs).Runs g ls' out/\hs.length=m/\∀ i h0,hs[i]?=some h0->∃ h,gl g r (j+i)=some h/\((∃ x,h.c=.own (.v x)/\h0=.own (.v x))\/∃ l,h.c=.ro l/\h0=.ro l)
 |0,j,k,ls,out,h=>⟨[],ls,h,rfl,fun i h0 e=>by simp at e⟩
 | m+1,j,k,ls,out,h=>by
   obtain⟨hv,ls1,hg,_,hq⟩:=bD (k:=fun h=>match h.c with
    | .own (.v x)=>vG r (j+1) m fun hs=>k (.own (.v x)::hs)
    | .ro l=>vG r (j+1) m fun hs=>k (.ro l::hs)
    |_=>.fail) h
   have fin:∀ c:H,((∃ x,hv.c=.own (.v x)/\c=.own (.v x))\/∃ l,hv.c=.ro l/\c=.ro l)->(vG r (j+1) m fun hs=>k (c::hs)).Runs g ls1 out->
    ∃ hs ls',(k hs).Runs g ls' out/\hs.length=m+1/\∀ i h0,hs[i]?=some h0->∃ h,gl g r (j+i)=some h/\((∃ x,h.c=.own (.v x)/\h0=.own (.v x))\/∃ l,h.c=.ro l/\h0=.ro l):=by
    intro c hc hq;obtain⟨hs,ls',q1,q2,q3⟩:=s8 m (j+1) _ _ _ hq;refine⟨c::hs,ls',q1,by simp[q2],fun i h0 e=>?_⟩;cases i with
    |zero=>simp at e;subst e;exact⟨hv,by simpa using hg,hc⟩
    | succ i=>
      have:=q3 i h0 (by simpa using e)
      rwa [show j+1+i=j+(i+1)from by omega]at this
   cases hc:hv.c with
   | own l=>
     simp only[hc]at hq;cases l with
     |v x=>exact fin _ (.inl ⟨x,hc,rfl⟩) hq
     |_=>exact hq.elim
   |ro l=>simp only[hc]at hq;exact fin _ (.inr ⟨l,hc,rfl⟩) hq
   |gone=>simp only[hc]at hq;exact hq.elim
def Kl (hT:bG P T){Φ:Type}{F0:Φ}{ctF:Φ->CT}{mtF:Φ->MT}{ptF:Φ->PT}{ntF:Φ->NT}{otF:Φ->OT}(hct:xR P (ctF F0))(hmt:BD P (mtF F0))(hpt:BI P (ptF F0))(hnw:BE P (ntF F0))(hot:BG P (otF F0))(hm:P.follows .mixedOrders=true){f:FuncId}{fn:Func}{ds:List DV}{res:List H}(n:Nat)(c:Code)(ts:List TypeId)(rvs:List ResultVar) 
 (hf:P.funcs[f]?=some fn) (hb:fn.body=some c) (hnt:fn.ntmps=n) (hts:fn.resultTypes.toList=ts) (hrv:fn.results.toList=rvs) (hn:YC ds.length n=true)
 (h:∀ O r F,O=am->r=res->F=F0->m9 T O ⟨ctF F,mtF F,ptF F,ntF F,otF F⟩ n [] c (RB O rvs r) (dM 0 ds)):EI P f ds res:=by
 subst hnt hts hrv;replace h:=h am res F0 rfl rfl rfl;replace hn:=Y9 hn;intro X w vs hargs;refine calls_of_wp hf hb ?_;refine YJ ?_ (cY (cx:=⟨fn.ntmps,w,fun _=>True,fun _=>undef,fun _=>none,fun _=>0,X⟩) hT (ct:=⟨ctF F0,mtF F0,ptF F0,ntF F0,otF F0⟩) ⟨hct,hmt,hpt,hnw,hot⟩ hm rfl (an:=[]) (fun r x e=>by cases e) c _ _ _ w h (EY X fn.ntmps w ds vs hargs hn));rintro e a' w' ⟨ex,σ',rfl,hq',G,hS⟩;have hq:EA am fn.results.toList σ' res:=by
  cases ex with
  |normal=>exact hq'
  |ret=>exact hq'
  |exit i=>exact hq'.elim
 have hex:ex=.normal\/ex=.ret:=by
  cases ex with
  |normal=>exact .inl rfl
  |ret=>exact .inr rfl
  |exit i=>exact hq'.elim
 unfold EA at hq;split at hq
 case h_2=>exact hq.elim
 rename_i t hrv;obtain⟨ls,u,tt,h1,_⟩:=Rd.wpU_runs hq;obtain⟨v,ls1,hv,hreg,h1⟩:=lH hS h1;split at h1
 case h_2=>exact h1.elim
 rename_i r;obtain⟨ls2,_,h1⟩:=h1;simp only at h1;split at h1
 case h_2=>exact h1.elim
 rename_i k hmeta;obtain⟨hs',ls3,h1,hk,hl⟩:=s8 k 0 _ _ _ h1;obtain⟨h1,_⟩:=h1;have h1:hs'=res:=h1;cases h1;subst hk;obtain⟨b,off,cur,ty,f1,f2,f3,f4,f5⟩:=hS.boxes r _ hmeta;simp only[cK]at hv;obtain⟨b',off',f6,f7⟩:=hv;rw[f1]at f6;cases f6;have hrun:(results fn a'.tmps).run P w'=.ok (a'.tmps.getD t undef) w':=by
  rw[vS,Wl (m:=Sem),hrv];simp[nV]
 have hcell:∀ j h,res[j]?=some h->FM X w' h (G.val r j):=by
  intro j h0 e;obtain⟨h,g1,g2⟩:=hl j h0 e;rw[ZP]at g1;have hok:=hS.hok g1;rcases g2 with⟨x,q1,rfl⟩|⟨l,q1,rfl⟩
  ·simp only[dO,q1]at hok;obtain⟨q2,_,_⟩:=hok;simp only[bO]at q2;exact⟨q2.1,q2.2.1,rfl⟩
  ·simp only[dO,q1]at hok;obtain⟨S,q2,q3⟩:=hok;exact⟨S,q2,fun c hc=>hS.roX c (q3 c hc)⟩
 have fin:a'.defers=[]/\∃ v,(results fn a'.tmps).run P w'=.ok v w'/\∃ b off cur ty,∃ val:Nat->Value,XT v=.returned (.pointer (some ⟨b,off,none⟩))/\w.heap.size<=b/\w'.heap[b]?=some (.cells cur ty (0,0))/\off+res.length<=cur.size/\
  (∀ j,j<res.length->cur[off+j]?=some (val j))/\(∀ j h,res[j]?=some h->FM X w' h (val j))/\Same (fun _=>True) w w':=
  ⟨hS.defers,_,hrun,b,off,cur,ty,G.val r,by rw[f7];rfl,hS.newb r b off f1 rfl,f3,f4,f5,hcell,hS.frame⟩
 rcases hex with rfl|rfl;exact fin;exact fin
end
end Go.V
namespace Go.V
def SS:(∀ a b:Int,(cT .eql a b=true)↔a=b)/\(∀ a b:Int,(cT .eql a b=false)↔a≠b)/\(∀ a b:Int,(cT .neq a b=true)↔a≠b)/\(∀ a b:Int,(cT .neq a b=false)↔a=b)/\
 (∀ a b:Int,(cT .lss a b=true)↔a<b)/\(∀ a b:Int,(cT .lss a b=false)↔b<=a)/\(∀ a b:Int,(cT .leq a b=true)↔a<=b)/\(∀ a b:Int,(cT .leq a b=false)↔b<a)/\
 (∀ a b:Int,(cT .gtr a b=true)↔b<a)/\(∀ a b:Int,(cT .gtr a b=false)↔a<=b)/\(∀ a b:Int,(cT .geq a b=true)↔b<=a)/\(∀ a b:Int,(cT .geq a b=false)↔a<b)/\
 (∀ b,(FY b=true)↔b=false)/\(∀ b,(FY b=false)↔b=true)/\(∀ a b,yY true a b=a)/\(∀ a b,yY false a b=b)/\
 (∀ a b,(zM .eql a b=true)↔a=b)/\(∀ a b,(zM .eql a b=false)↔a≠b)/\(∀ a b,(zM .neq a b=true)↔a≠b)/\(∀ a b,(zM .neq a b=false)↔a=b)/\
 (∀ n,ziI n=(n:Int))/\(∀ es,lnI es=es.length)/\(∀ f,prI f=f ())/\(∀ n:Nat,Ww n=(n:Int))/\(∀ a b,Q2 a b=a++b)/\(∀ i,nnI i=i.toNat):=
 ⟨fun _ _=>Ja,fun _ _=>I9,fun _ _=>Jk,fun _ _=>Jj,fun _ _=>Ji,fun _ _=>Jh,fun _ _=>Jg,fun _ _=>Jf,fun _ _=>Je,fun _ _=>Jd,fun _ _=>Jc,fun _ _=>Jb,
   fun _=>abC,fun _=>abB,fun _ _=>rfl,fun _ _=>rfl,fun _ _=>F1,fun _ _=>FZ,fun _ _=>F3,fun _ _=>F2,fun _=>rfl,fun _=>rfl,fun _=>rfl,fun _=>rfl,fun _ _=>rfl,fun _=>rfl⟩
end Go.V
namespace Go.V
def onc (n:Nat):Ww n=(n:Int):=rfl
structure TB (P:Program) where
 Φ:Type
 F0:Φ
 ct:Φ->CT:=noC
 mt:Φ->MT:=Ts
 pt:Φ->PT:=Tv
 nt:Φ->NT:=Tt
 ot:Φ->OT:=Tu
 hc:xR P (ct F0):=by exact OS
 hm:BD P (mt F0):=by exact Km
 hp:BI P (pt F0):=by exact Kp
 hn:BE P (nt F0):=by exact Kn
 ho:BG P (ot F0):=by exact Ko
abbrev tb {P:Program}{Φ:Type}{F0:Φ}{ct:Φ->CT}(hc:xR P (ct F0)):TB P:={Φ:=Φ,F0:=F0,ct:=ct,hc:=hc}
section
variable {P: Program} {T: wE} (B: TB P) (hT: bG P T) (hm: P.follows .mixedOrders = true) {f: FuncId} {fn: Func} {ds: List DV} (n: Nat) (c: Code) (ts: List TypeId) (rvs: List ResultVar)
include hT hm
def Pd {res:List DV}{outs:List (List H)}(hf:P.funcs[f]?=some fn)(hb:fn.body=some c)(hnt:fn.ntmps=n)(hts:fn.resultTypes.toList=ts)(hrv:fn.results.toList=rvs)(hn:YC ds.length n=true)(hlo:(mpL 0 ds).length=outs.length)(hl0:(mpL 0 ds).all (fun q=>q.2.length.ble 999)=true) 
 (h:∀ O r os F,O=am->r=res->os=(fun i=>outs.getD i [])->F=B.F0->m9 T O ⟨B.ct F,B.mt F,B.pt F,B.nt F,B.ot F⟩ n ((mpL 0 ds).map (·.1)) c (Nv T O ts rvs (mpL 0 ds) r os) (eI 0 ds)):xV P f ds outs res:=
 Ef hT B.hc B.hm B.hp B.hn B.ho hm n c ts rvs hf hb hnt hts hrv hn hlo hl0 h
def OR {res:List H}(hf:P.funcs[f]?=some fn)(hb:fn.body=some c)(hnt:fn.ntmps=n)(hts:fn.resultTypes.toList=ts)(hrv:fn.results.toList=rvs)(hn:YC ds.length n=true) 
 (h:∀ O r F,O=am->r=res->F=B.F0->m9 T O ⟨B.ct F,B.mt F,B.pt F,B.nt F,B.ot F⟩ n [] c (RB O rvs r) (dM 0 ds)):EI P f ds res:=
 Kl hT B.hc B.hm B.hp B.hn B.ho hm n c ts rvs hf hb hnt hts hrv hn h
end
end Go.V