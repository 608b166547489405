/-
  A condition generator for functions on trees of data, part 4 of 5: values in memory, contracts, soundness.
-/
import Derived.Test.YtpldpilhgjpkjaaGreatVC
import Derived.IntWalk
import Derived.ProofKit
set_option linter.all false
open Go
open Bool renaming false_eq_true->Ye,rec->Vj,or_eq_false_iff->Vl,or_eq_true->Yc,and_eq_true->Zc,not_eq_true'->YM
open Cell renaming okWide->XQ,ok->XR
open Code renaming region->Vq,wp_mono->Y8
open DataW renaming trod->Xj,TrodAll->XS
open Ending renaming returned->Wv
open Int renaming toNat_natCast->ZE,ofNat->Wu
open IntKind renaming i64->Za
open IntWalk renaming i64_in->YT
open List renaming mem_cons->Zk,any_cons->Vk,range->Zj,flatMap_cons->Y4,filter_filter->Wp,filter_congr->XM,mem_range->Ya,range_add->X9,range_succ->Vm,filter_append->Wq,filter_eq_nil_iff->XN,mem_map->ZR,flatMap_append->Wr,append_nil->Z2,getElem?_eq_getElem->Zs,filter_eq_self->Vo,length_append->Ze,length_cons->Zr,length_nil->Zt,getD_eq_getElem?_getD->Zo,getElem?_append_left->ZO,getElem?_eq_none->Z6,all_eq_true->Yi,any_eq_true->XO,getElem?_eq_some_iff->ZB,getElem?_map->ZA,eq_nil_of_length_eq_zero->YA,getElem?_drop->Zv,drop_drop->Z8,take_append_drop->ZI,length_drop->Zn,foldl_cons->Wb,getElem?_range->Xe,length_range->Xm,nil_append->Z0,map_cons->ZU,mem_of_getElem?->Zx,getElem?_of_mem->Yu,getD->ZC
open List.cons renaming injEq->Vh
open Nat renaming lt_or_ge->Z7,add_zero->Yl,le_refl->Zf,zero_add->ZP,blt->Ws,beq->Z3,eq_of_beq_eq_true->Yt,blt_eq->Vr,ne_of_beq_eq_false->Wt,add_mul->Zm,zero_le->ZF,succ_mul->Wc,mul_le_mul_right->ZJ,ble->YZ,le_of_ble_eq_true->Xg
open NatCast renaming natCast->VJ
open Option renaming isSome_some->Vi,bind_some->YF,getD_some->Z5,map_eq_some_iff->Zy,map_some->Ym,bind_eq_some_iff->XP
open Option.some renaming injEq->Yf
open Prod.mk renaming injEq->WT
open Region renaming binds->Vn,ready->Vp
open Value renaming okWide->YS
open World renaming cell?->Yq
open _root_.Array renaming getElem?_toList->ZW,getD_eq_getD_getElem?->Yx,getElem?_eq_getElem->Xx,getElem?_eq_some_iff->Zz,replicate->YQ,mapM_eq_mapM_toList->Wj
namespace Go.V
section
variable {P: Program} {T: Am} {n: Nat} {g: Gm}
theorem Bv (hT:bF P T){d:Option Tmp}{op:BinOp}{t:TypeId}{x y:Operand}{ls:List Loc}{out:Out}(h:(Jf T am n d op t x y).Runs g ls out):(Je P n d op t x y).Runs g ls out:=by
 unfold Jf at h;unfold Je;refine du ?_ h;intro a ls h;refine du ?_ h;intro b ls h;cases a with
 | v a=>
   cases b with
   | v b=>
     cases a with
     | int k a=>
       cases b with
       | int k' b=>
         by_cases hk:k=k'
         ·subst hk;cases op<;>first|exact h|(simp only[HG,DZ,Kx,DY,vL,Hy,beq_self_eq_true,if_true,Ye,if_false]at h ⊢;exact h)|(simp only[HG,DZ,Kx,DY,vL,Hy,beq_self_eq_true,if_true,Ye,if_false]at h ⊢;exact⟨trivial,h⟩)|(simp[HG,DZ,Kx,DY,Rd.Runs]at h)
         ·cases op<;>first|exact h|(simp[HG,hk,Rd.Runs]at h)
       |_=>exact h.elim
     | bool a=>
       cases b with
       | bool b=>
         rcases hT.bo t with e|⟨q,e,hb⟩
         ·simp[e,Rd.Runs]at h
         ·cases op<;>first|(simp only[e,hb,Vi,OG,Bool.true_and,Bool.and_true,if_true]at h ⊢;exact h)|(simp[OG,Rd.Runs]at h)
       |_=>exact h.elim
     |_=>exact h.elim
   |_=>cases a<;>exact h.elim
 |_=>exact h.elim
theorem FY (hT:bF P T){d:Option Tmp}{op:BinOp}{t:TypeId}{x y:Operand}{ls:List Loc}{out:Out}(h:(zO T am n d op t x y).Runs g ls out):(Bt P n d op t x y).Runs g ls out:=by
 unfold zO at h;unfold Bt;refine oA ?_ h;intro v ls h;cases v with
 | agg as=>
   simp only at h ⊢;unfold Jj at h ⊢;rcases hT.cm t with e|⟨q,e,e2⟩
   ·simp only[e]at h;exact h.elim
   ·simp only[e,e2]at h ⊢;exact h
 |one a=>exact Bv hT h
 |tup rs=>exact Bv hT h
theorem Ls {d:Option Tmp}{op:UnOp}{x:Operand}{ls:List Loc}{out:Out}(h:(Qg am n d op x).Runs g ls out):(vUn n d op x).Runs g ls out:=by
 unfold Qg at h;unfold vUn;refine du ?_ h;intro a ls h;cases a with
 |v a=>cases op<;>cases a<;>exact h
 |_=>cases op<;>exact h
theorem HX {α:Type}{a:A}{k:Nat->Rd α}{ls:List Loc}{x:α}(h:(MA am a k).Runs g ls x):(KF a k).Runs g ls x:=by
 cases a with
 | vn r j ver iv p lo m=>
   refine dU ?_ h;intro hv ls h
   revert h
   generalize hv.c=c;intro h;cases c with
   | own l=>
     refine cT (fun ls h=>?_) h;obtain⟨hs,h⟩:=h;obtain⟨⟨sz,es⟩,e⟩:=Option.isSome_iff_exists.1 hs;obtain⟨rec,o,f1,f2⟩:=oB e;simp only[f1,f2];exact h
   |ro l=>exact h
   |gone=>exact h
 | vw r j ver lo m=>
   refine dU ?_ h;intro hv ls h
   revert h
   generalize hv.c=c;intro h;cases c with
   |own l=>cases l<;>exact h
   |ro l=>exact h
   |gone=>exact h
 |_=>exact h
theorem zE {α:Type}{ti:TI}{a:A}{k' k:af->List (Nat×Nat)->Rd α}{ls:List Loc}{x:α}(hk:∀ es src ls,(k' es src).Runs g ls x->(k es src).Runs g ls x)(h:(yk am ti a k').Runs g ls x):(qL ti a k).Runs g ls x:=by
 cases a with
 |nl=>exact hk _ _ _ h
 |ro sz es=>exact cT (fun ls h=>kf id (fun ls h=>hk _ _ _ h) h) h
 | vw r j ver lo m=>
   refine dU ?_ h;intro hv ls h
   revert h
   generalize hv.c=c;intro h;cases c with
   | own l=>cases l with
     | s sz es=>
       refine cT (fun ls h=>?_) h;by_cases hs:gG ti.slots=true
       ·rw[VN hs]at h ⊢;exact kf id (fun ls h=>hk _ _ _ h) h
       ·rw[VO hs]at h ⊢;exact kf id (fun ls h=>hk _ _ _ h) h
     |v x=>exact h
     |g=>exact h
     |m _ _=>exact h
   |ro l=>exact h
   |gone=>exact h
 | vn r j ver iv p lo m=>
   refine dU ?_ h;intro hv ls h
   revert h
   generalize hv.c=c;intro h;cases c with
   | own l=>
     refine cT (fun ls h=>?_) h;obtain⟨⟨h1,h2⟩,h⟩:=h;obtain⟨rec,o,f1,f2⟩:=oB h1;simp only[f1,f2,beq_self_eq_true,if_true];exact⟨h2,hk _ _ _ h⟩
   |ro l=>exact h
   |gone=>exact h
 |_=>exact h
theorem eN (hT:bF P T){d:Option Tmp}{t t':TypeId}{s x:Operand}{ls:List Loc}{out:Out}(h:(oe T am n d t t' s x).Runs g ls out):(mr P n d t t' s x).Runs g ls out:=by
 revert h
 unfold oe mr;rcases hT.el t with e|⟨q,e,e2⟩
 ·simp only[e];exact fun h=>h.elim
 simp only[e,e2];intro h
 ·
   obtain⟨e,ti,b⟩:=q;refine cT (fun ls h=>?_) h;refine du ?_ h;intro a ls h;refine du ?_ h;intro b ls h;rw[se]at h;refine pP ?_ h;intro l og src ls h;cases l with
   | s sz es=>
     refine cT (fun ls h=>?_) h;refine zE ?_ h;intro es2 src2 ls h;exact h
   |v y=>exact h
   |g=>exact h
   |m _ _=>exact h
theorem zM (hT:bF P T){d:Option Tmp}{t t':TypeId}{s x:Operand}{ls:List Loc}{out:Out}(h:(si T am n d t t' s x).Runs g ls out):(oh P n d t t' s x).Runs g ls out:=by
 revert h
 unfold si oh;rcases hT.el t with e|⟨q,e,e2⟩
 ·simp only[e];exact fun h=>h.elim
 simp only[e,e2];intro h;obtain⟨e,ti,b⟩:=q;refine cT (fun ls h=>?_) h;refine du ?_ h;intro a ls h;refine du ?_ h;intro b ls h;rw[se]at h;refine pP ?_ h;intro l og src ls h;cases l with
 |s sz es=>exact h
 |v y=>exact h
 |g=>exact h
 |m _ _=>exact h
theorem zN (hT:bF P T){d:Option Tmp}{t t':TypeId}{s x:Operand}{ls:List Loc}{out:Out}(h:(sj T am n d t t' s x).Runs g ls out):(oi P n d t t' s x).Runs g ls out:=by
 unfold sj at h;unfold oi;refine du ?_ h;intro b ls h;cases b with
 | vw r j ver lo m=>
   obtain⟨ls',e,h⟩:=h;refine⟨ls',e,?_⟩
   revert h;generalize g (Loc.meta_ r)=mv;intro h
   rcases hT.el t with e|⟨q,e,e2⟩
   ·simp only[e]at h;cases mv with
    |none=>exact eN hT h
    | some v=>cases v with
      | m k bx=>cases bx with
        |true=>exact h.elim
        |false=>exact eN hT h
      |_=>exact eN hT h
   ·obtain⟨e0,ti,b⟩:=q;simp only[e,e2]at h ⊢;cases mv with
    |none=>exact eN hT h
    | some v=>cases v with
      | m k bx=>cases bx with
        | true=>
          simp only at h ⊢;by_cases c:gG ti.slots=true
          ·rw[VN c]at h ⊢;exact eN hT h
          ·rw[VO c]at h ⊢;exact zM hT h
        |false=>exact eN hT h
      |_=>exact eN hT h
 |_=>exact eN hT h
def As (g:Gm){α τ:Type}(m:∀ {β:Type},(τ->Rd β)->Rd β)(k':τ->Rd α)(ls:List Loc)(x:α):Prop:=
 ∃ t ls',(k' t).Runs g ls' x/\∀ {β:Type} (k:τ->Rd β) (y:β),(k t).Runs g ls' y->(m k).Runs g ls y
theorem IH {α:Type}{l:Loc}{k':Val->Rd α}{ls:List Loc}{x:α}(h:(rd l k').Runs g ls x):As g (fun k=>rd l k) k' ls x:=by
 unfold rd at h;obtain⟨ls',e,h⟩:=h;cases hg:g l with
 |none=>simp[hg,Rd.Runs]at h
 | some v=>
   simp only[hg]at h;refine⟨v,ls',h,?_⟩;intro β k y hy;refine⟨ls',e,?_⟩;simp only[hg];exact hy
theorem K4 {α:Type}{d:Nat}{k':R->Rd α}{ls:List Loc}{x:α}(h:(BU d k').Runs g ls x):As g (fun k=>BU d k) k' ls x:=by
 obtain⟨v,ls',h1,h2⟩:=IH h;cases v with
 |r y=>exact⟨y,ls',h1,fun k z hz=>h2 _ z hz⟩
 |_=>exact h1.elim
theorem uo {α:Type}{r j:Nat}{k':Hv->Rd α}{ls:List Loc}{x:α}(h:(gC r j k').Runs g ls x):As g (fun k=>gC r j k) k' ls x:=by
 obtain⟨v,ls',h1,h2⟩:=IH h;cases v with
 |h y=>exact⟨y,ls',h1,fun k z hz=>h2 _ z hz⟩
 |_=>exact h1.elim
theorem Cj {α:Type}{o:Operand}{k':R->Rd α}{ls:List Loc}{x:α}(h:(ev o k').Runs g ls x):As g (fun k=>ev o k) k' ls x:=by
 cases o with
 |tmp t=>exact K4 h
 |const c=>exact⟨_,ls,h,fun k y hy=>hy⟩
 |_=>exact h.elim
theorem Gw {α:Type}{slot:Option Nat}{a:A}{k':L->Rd α}{ls:List Loc}{x:α}(h:(Du am slot a k').Runs g ls x):As g (fun k=>Ca slot a k) k' ls x:=by
 cases slot with
 | none=>
   cases a with
   | v y=>
     simp only[Du]at h;split at h
     ·rename_i hs;exact⟨_,ls,h,fun k z hz=>by simp only[Ca,hs,if_true];exact hz⟩
     ·exact h.elim
   |_=>exact h.elim
 | some sz=>
   cases a with
   |nl=>exact⟨_,ls,h,fun k y hy=>hy⟩
   | ro sz' es=>
     simp only[Du]at h;split at h
     ·rename_i hs;exact⟨_,ls,h,fun k z hz=>by simp only[Ca,hs,if_true];exact hz⟩
     ·exact h.elim
   | vw r j ver lo m=>
     obtain⟨hv,ls',h1,h2⟩:=uo h;cases hc:hv.c with
     | own l=>cases l with
       | s sz' es=>
         simp only[hc]at h1;split at h1
         ·rename_i hs;exact⟨_,ls',h1,fun k z hz=>h2 _ z (by simp only[hc,hs,if_true];exact hz)⟩
         ·exact h1.elim
       |v x=>simp[hc,Rd.Runs]at h1
       |g=>simp[hc,Rd.Runs]at h1
       |m _ _=>simp[hc,Rd.Runs]at h1
     |ro l=>simp[hc,Rd.Runs]at h1
     |gone=>simp[hc,Rd.Runs]at h1
   | vn r j ver iv p lo m=>
     obtain⟨hv,ls',h1,h2⟩:=uo h;cases hc:hv.c with
     | own l=>
       simp only[hc]at h1;split at h1
       ·rename_i hg;obtain⟨e1,h1⟩:=h1;obtain⟨rec,o,f1,f2⟩:=oB e1;refine⟨_,ls',h1,fun k z hz=>h2 _ z ?_⟩;simp only[hc,hg,if_true,f1,f2,beq_self_eq_true];exact hz
       ·exact h1.elim
     |ro l=>simp[hc,Rd.Runs]at h1
     |gone=>simp[hc,Rd.Runs]at h1
   |_=>exact h.elim
theorem lp {α:Type}:∀ {sl:List (Option Nat)} {as:List A} {k':aO->Rd α} {ls:List Loc} {x:α},(jC am sl as k').Runs g ls x->As g (fun k=>fq sl as k) k' ls x
 |[],[],_,ls,_,h=>⟨_,ls,h,fun _ _ hy=>hy⟩
 |[],_::_,_,_,_,h=>h.elim
 |_::_,[],_,_,_,h=>h.elim
 | _::_,_::_,_,_,_,h=>by
   obtain⟨l,ls1,h1,h2⟩:=Gw h;obtain⟨l2,ls2,h3,h4⟩:=lp h1;exact⟨l::l2,ls2,h3,fun k y hy=>h2 _ y (h4 _ y hy)⟩
theorem jv {α:Type}{r:Nat}:∀ {m j:Nat} {k':aO->Rd α} {ls:List Loc} {x:α},(fC r j m k').Runs g ls x->As g (fun k=>fC r j m k) k' ls x
 |0,_,_,ls,_,h=>⟨_,ls,h,fun _ _ hy=>hy⟩
 | m+1,j,_,_,_,h=>by
   obtain⟨hv,ls1,h1,h2⟩:=uo h;cases hc:hv.c with
   | own l=>
     simp only[hc]at h1;obtain⟨rec,ls2,h3,h4⟩:=jv h1;exact⟨l::rec,ls2,h3,fun k y hy=>h2 _ y (by simp only[hc];exact h4 _ y hy)⟩
   | ro l=>
     simp only[hc]at h1;obtain⟨rec,ls2,h3,h4⟩:=jv h1;exact⟨l::rec,ls2,h3,fun k y hy=>h2 _ y (by simp only[hc];exact h4 _ y hy)⟩
   |gone=>simp[hc,Rd.Runs]at h1
theorem Kn {α:Type}{l:Loc}{k':Option Val->Rd α}{ls:List Loc}{x:α}(h:(Rd.get l k').Runs g ls x):As g (fun k=>Rd.get l k) k' ls x:=by
 obtain⟨ls',e,h⟩:=h;exact⟨g l,ls',h,fun k y hy=>⟨ls',e,hy⟩⟩
theorem kC {α:Type}:∀ {cs:List BX} {k':af->Rd α} {ls:List Loc} {x:α},(fJ cs k').Runs g ls x->As g (fun k=>fJ cs k) k' ls x
 |[],_,ls,_,h=>⟨_,ls,h,fun _ _ hy=>hy⟩
 | .pt r j::cs,_,_,_,h=>by
   obtain⟨v,ls1,h1,h2⟩:=Kn h;dsimp only at h1;split at h1
   ·rename_i n;split at h1
    ·rename_i hj;obtain⟨rec,ls2,h3,h4⟩:=jv h1;obtain⟨recs,ls3,h5,h6⟩:=kC h3;exact⟨rec::recs,ls3,h5,fun k y hy=>h2 _ y (by simp only[hj,if_true];exact h4 _ y (h6 _ y hy))⟩
    ·exact h1.elim
   ·exact h1.elim
 | .rp rec j::cs,_,_,_,h=>by
   simp only[fJ]at h;split at h
   ·rename_i hj;obtain⟨recs,ls3,h5,h6⟩:=kC h;exact⟨_,ls3,h5,fun k y hy=>by simp only[fJ,hj,if_true];exact h6 _ y hy⟩
   ·exact h.elim
theorem yK {α:Type}{o:Operand}{k':A->Rd α}{ls:List Loc}{x:α}(h:(fY o k').Runs g ls x):As g (fun k=>fY o k) k' ls x:=by
 obtain⟨v,ls1,h1,h2⟩:=Cj h;cases v with
 |one a=>exact⟨a,ls1,h1,fun k y hy=>h2 _ y hy⟩
 |agg as=>exact h1.elim
 |tup rs=>exact h1.elim
theorem Gy (hT:bF P T){α:Type}{t:TypeId}{o:Operand}{k':DV->Rd α}{ls:List Loc}{x:α}(h:(Gx (lk T.ptL t) o k').Runs g ls x):As g (fun k=>Gx (EE P t) o k) k' ls x:=by
 obtain⟨v,ls1,h1,h2⟩:=yK h;cases v with
 | pt r j=>
   rcases hT.pt t with e|⟨ti,e,e2⟩
   ·simp[e,Rd.Runs]at h1
   ·simp only[e]at h1;split at h1
    ·rename_i hp;obtain⟨rec,ls2,h3,h4⟩:=jv h1;exact⟨_,ls2,h3,fun k y hy=>h2 _ y (by simp only[e2,hp,if_true];exact h4 _ y hy)⟩
    ·exact h1.elim
 | rp rec j=>
   rcases hT.pt t with e|⟨ti,e,e2⟩
   ·simp[e,Rd.Runs]at h1
   ·simp only[e]at h1;split at h1
    ·rename_i hp;exact⟨_,ls1,h1,fun k y hy=>h2 _ y (by simp only[e2];rw[VN hp];exact hy)⟩
    ·exact h1.elim
 | fn f caps=>
   obtain⟨recs,ls2,h3,h4⟩:=kC h1;exact⟨_,ls2,h3,fun k y hy=>h2 _ y (h4 _ y hy)⟩
 |_=>exact h1.elim
theorem Gv (hT:bF P T){α:Type}{t:TypeId}{o:Operand}{k':DV->Rd α}{ls:List Loc}{x:α}(h:(Gu T am t o k').Runs g ls x):As g (fun k=>B8 P t o k) k' ls x:=by
 unfold Gu at h;rcases hT.ty t with e|⟨ti,e,hti⟩
 ·simp only[e]at h;split at h
  ·rename_i hp;rcases hT.pn t with f|⟨_,_,f⟩
   ·simp[f]at hp
   ·obtain⟨d,ls1,h1,h2⟩:=Gy hT h;exact⟨d,ls1,h1,fun k y hy=>by unfold B8;simp only[f];exact h2 _ y hy⟩
  ·exact h.elim
 ·simp only[e]at h;obtain⟨v,ls1,h1,h2⟩:=Cj h;cases v with
  | one a=>
    simp only at h1;split at h1
    ·exact h1.elim
    ·rename_i hb;obtain⟨l,ls2,h3,h4⟩:=lp h1;simp only at h3;split at h3
     ·refine⟨_,ls2,h3,fun k y hy=>?_⟩;unfold B8;simp only[hti];refine h2 _ y ?_;simp only;rw[VO hb];exact h4 _ y hy
     ·exact h3.elim
  | agg as=>
    simp only at h1;split at h1
    ·rename_i hb;obtain⟨l,ls2,h3,h4⟩:=lp h1;refine⟨_,ls2,h3,fun k y hy=>?_⟩;unfold B8;simp only[hti];refine h2 _ y ?_;simp only;rw[VN hb];exact h4 _ y hy
    ·exact h1.elim
  |tup rs=>exact h1.elim
theorem qX (hT:bF P T){α:Type}:∀ {ts:List TypeId} {xs:List Operand} {k':List DV->Rd α} {ls:List Loc} {x:α},(yw T am ts xs k').Runs g ls x->As g (fun k=>pU P ts xs k) k' ls x
 |[],[],_,ls,_,h=>⟨_,ls,h,fun _ _ hy=>hy⟩
 |[],_::_,_,_,_,h=>h.elim
 |_::_,[],_,_,_,h=>h.elim
 | _::_,_::_,_,_,_,h=>by
   obtain⟨l,ls1,h1,h2⟩:=Gv hT h;obtain⟨l2,ls2,h3,h4⟩:=qX hT h1;exact⟨l::l2,ls2,h3,fun k y hy=>h2 _ y (h4 _ y hy)⟩
theorem Fq {α:Type}{d:Option Tmp}{k':Nat->Rd α}{ls:List Loc}{x:α}(h:(fresh n d k').Runs g ls x):As g (fun k=>fresh n d k) k' ls x:=by
 cases d with
 |none=>exact h.elim
 | some d=>
   simp only[fresh]at h;split at h
   ·rename_i hlt;obtain⟨ls',e,h⟩:=h;cases hg:g (.meta_ d)with
    | none=>
      simp only[hg]at h;refine⟨d,ls',h,fun k y hy=>?_⟩;simp only[fresh,hlt,if_true,Rd.Runs];exact⟨ls',e,by simp only[hg];exact hy⟩
    |some v=>simp[hg,Rd.Runs]at h
   ·exact h.elim
def Aq (P:Program)(ct:CT):Prop:=∀ f ds pre res,ct f ds=some (pre,res)->pre ()->JF P f ds res
def Fb (P:Program)(mt:MT):Prop:=∀ f mk,mt f=some mk->∀ ds pre outs res,mk ds=some (pre,outs,res)->pre ()->B0 P f ds outs res
def Fg (P:Program)(pt:FuncId->Option PK):Prop:=∀ f mk,pt f=some mk->∀ ds pre outs res,mk ds=some (pre,outs,res)->pre ()->yt P f ds outs res
def Fe (P:Program)(nt:FuncId->Option NK):Prop:=∀ f mk,nt f=some mk->∀ ds pre hs,mk ds=some (pre,hs)->pre ()->Fc P f ds hs
def Ff (P:Program)(ot:FuncId->Option Nt):Prop:=∀ f mk,ot f=some mk->∀ ds pre res,mk ds=some (pre,res)->pre ()->B5 P f ds res
def xI (P:Program)(ct:F7):Prop:=Aq P ct.rd/\Fb P ct.mu/\Fg P ct.pt/\Fe P ct.nw/\Ff P ct.tk
def NB (P:Program)(n:Nat)(o:Oper)(rd:Rd Out):Prop:=
 ∀ (cx:Cx) (G:Gh) (g:Gm) (a:Act) (w:World) (ls:List Loc) (ws:List W),cx.n=n->ay cx G g a w->rd.Runs g ls (.ws ws)->
  ∀ (K:Act->World->Prop) (Q:Exit->Act->World->Prop),(∀ a' w',eW cx (bh g ws) a' w'->K a' w')->o.wp P a w K Q
def fm (P:Program)(n:Nat)(o:Oper)(g:Gm)(ls:List Loc)(ws:List W):Prop:=
 (jf o=none/\(QP P n o).Runs g ls (.ws ws))\/
 (∃ f ts args ds mk res,jf o=some (f,ts,args)/\(ym P n o.dst f ts args).Runs g ls (.call f ds mk)/\JF P f ds res/\ws=mk res)\/
 (∃ f ts args mk,jf o=some (f,ts,args)/\(∀ ds pre outs res,mk ds=some (pre,outs,res)->pre ()->B0 P f ds outs res)/\(sn lc mR pm (kv P) n o.dst (dn P f) ts args mk dM).Runs g ls (.ws ws))\/
 ∃ rd,NB P n o rd/\rd.Runs g ls (.ws ws)
theorem FJ {α:Type}{slot:Option Nat}{a:A}{k' k:L->List Pl->Rd α}{x:α}{ls:List Loc}(hk:∀ l p ls,(k' l p).Runs g ls x->(k l p).Runs g ls x)(h:(Iv lc mR slot a k').Runs g ls x):(Iv lc mR slot a k).Runs g ls x:=by
 cases slot with
 | none=>
   cases a with
   |v y=>exact cT (fun ls h=>hk _ _ _ h) h
   |_=>exact h
 | some sz=>
   cases a with
   | vw r j ver lo m=>
     refine dU ?_ h;intro hv ls h
     revert h
     generalize hv.c=c;intro h;cases c with
     | own l=>cases l with
       |s sz' es=>exact cT (fun ls h=>kf id (fun ls h=>hk _ _ _ h) h) h
       |v x=>exact h
       |g=>exact h
       |m _ _=>exact h
     |ro l=>exact h
     |gone=>exact h
   | vn r j ver iv p lo m=>
     refine dU ?_ h;intro hv ls h
     revert h
     generalize hv.c=c;intro h;cases c with
     | own l=>cases l with
       |s sz' es=>exact cT (fun ls h=>kf id (fun ls h=>hk _ _ _ h) h) h
       |v x=>exact h
       |g=>exact h
       |m _ _=>exact h
     |ro l=>exact h
     |gone=>exact h
   |_=>exact h
theorem nQ {α:Type}:∀ {sl:List (Option Nat)} {as:List A} {k' k:aO->List Pl->Rd α} {x:α} {ls:List Loc},(∀ l p ls,(k' l p).Runs g ls x->(k l p).Runs g ls x)->(rP lc mR sl as k').Runs g ls x->(rP lc mR sl as k).Runs g ls x
 |[],[],k',k,x,ls,hk,h=>hk _ _ _ h
 |[],_::_,k',k,x,ls,hk,h=>h
 |_::_,[],k',k,x,ls,hk,h=>h
 |s::sl,a::as,k',k,x,ls,hk,h=>FJ (fun l p ls h=>nQ (fun _ _ ls h=>hk _ _ ls h) h) h
theorem FL {ty ty':TypeId->Option TI}(ht:∀ t x,ty t=some x->ty' t=some x){α:Type}{t:TypeId}{o:Operand}{k' k:DV->List Pl->Rd α}{x:α}{ls:List Loc}(hk:∀ d p ls,(k' d p).Runs g ls x->(k d p).Runs g ls x) 
 (h:(FK lc mR ty t o k').Runs g ls x):(FK lc mR ty' t o k).Runs g ls x:=by
 unfold FK at h ⊢;cases hti:ty t with
 |none=>simp[hti,Rd.Runs]at h
 | some ti=>
   simp only[hti]at h;simp only[ht t ti hti];refine oA ?_ h;intro v ls h;cases v with
   | one a=>
     simp only at h ⊢;split at h
     ·exact h.elim
     ·rename_i hb;rw[VO hb];refine nQ ?_ h;intro l p ls h;split at h
      ·exact hk _ _ _ h
      ·exact h.elim
   | agg as=>
     simp only at h ⊢;split at h
     ·rename_i hb;rw[VN hb];exact nQ (fun l p ls h=>hk _ _ _ h) h
     ·exact h.elim
   |tup rs=>exact h
theorem v5 {ty ty':TypeId->Option TI}(ht:∀ t x,ty t=some x->ty' t=some x){α:Type}:∀ {ts:List TypeId} {xs:List Operand} {k' k:List DV->List Pl->Rd α} {x:α} {ls:List Loc},(∀ d p ls,(k' d p).Runs g ls x->(k d p).Runs g ls x)->
 (yc lc mR ty ts xs k').Runs g ls x->(yc lc mR ty' ts xs k).Runs g ls x
 |[],[],k',k,x,ls,hk,h=>hk _ _ _ h
 |[],_::_,k',k,x,ls,hk,h=>h
 |_::_,[],k',k,x,ls,hk,h=>h
 |t::ts,o::xs,k',k,x,ls,hk,h=>FL ht (fun d p ls h=>v5 ht (fun _ _ ls h=>hk _ _ ls h) h) h
theorem aex (hT:bF P T){o:Oper}{f:FuncId}{ts:Array TypeId}{args:Array Operand}{mk:MK}{ls:List Loc}{ws:List W}(hc:jf o=some (f,ts,args))(hmk:∀ ds pre outs res,mk ds=some (pre,outs,res)->pre ()->B0 P f ds outs res) 
 (h:(sn am.pr am.ps am.up (lk T.tyL) n o.dst (lk T.fnL f).isSome ts args mk (fF am)).Runs g ls (.ws ws)):fm P n o g ls ws:=by
 refine .inr (.inr (.inl ⟨f,ts,args,mk,hc,hmk,?_⟩));rw[show am.pr=lc from rfl,show am.ps=mR from rfl,show am.up=pm from rfl,show fF am=dM from by funext d res;exact jz d res]at h;unfold sn at h ⊢;split at h
 ·rename_i hb';have hb:dn P f=true:=by
   rcases hT.fn f with e|⟨_,_,e⟩
   ·rw[e]at hb';cases hb'
   ·exact e
  rw[VN hb];refine v5 ?_ (fun _ _ _ h=>h) h;intro t x e;rcases hT.ty t with q|⟨y,q1,q2⟩
  ·rw[q]at e;cases e
  ·rw[q1]at e;cases e;exact q2
 ·exact h.elim
theorem Dl (hT:bF P T){ct:F7}(hct:xI P ct){o:Oper}{f:FuncId}{ts:Array TypeId}{args:Array Operand}{ls:List Loc}{ws:List W}(hc:jf o=some (f,ts,args)) 
 (h:(Dj T am ct n o.dst f ts args).Runs g ls (.ws ws)):fm P n o g ls ws:=by
 unfold Dj at h;split at h
 ·rename_i hb';have hb:dn P f=true:=by
   rcases hT.fn f with e|⟨_,_,e⟩
   ·rw[e]at hb';cases hb'
   ·exact e
  obtain⟨ds,ls1,h1,h2⟩:=qX hT h;simp only at h1;split at h1
  ·rename_i pre res he;obtain⟨hp,h1⟩:=h1;obtain⟨d,ls2,h3,h4⟩:=Fq h1;simp only[Rd.Runs,Out.ws.injEq]at h3;obtain⟨rfl,rfl⟩:=h3;refine .inr (.inl ⟨f,ts,args,ds,dM d,res,hc,?_,hct.1 _ _ _ _ he hp,by rw[jz]⟩);unfold ym;rw[VN hb];refine h2 _ _ (h4 _ _ ?_);simp[Rd.Runs]
  ·exact h1.elim
 ·exact h.elim
theorem pH {α:Type}{r:Nat}:∀ {m j:Nat} {k':List H->Rd α} {ls:List Loc} {x:α},(kZ r j m k').Runs g ls x->As g (fun k=>kZ r j m k) k' ls x
 |0,_,_,ls,_,h=>⟨_,ls,h,fun _ _ hy=>hy⟩
 | m+1,j,_,_,_,h=>by
   obtain⟨hv,ls1,h1,h2⟩:=uo h;cases hc:hv.c with
   | own l=>
     simp only[hc]at h1;obtain⟨rec,ls2,h3,h4⟩:=pH h1;exact⟨.own l::rec,ls2,h3,fun k y hy=>h2 _ y (by simp only[hc];exact h4 _ y hy)⟩
   | ro l=>
     simp only[hc]at h1;obtain⟨rec,ls2,h3,h4⟩:=pH h1;exact⟨.ro l::rec,ls2,h3,fun k y hy=>h2 _ y (by simp only[hc];exact h4 _ y hy)⟩
   |gone=>simp[hc,Rd.Runs]at h1
theorem Ix (hT:bF P T){α:Type}{t:TypeId}{o:Operand}{k':DV×List (Nat×Nat)×List kn->Rd α}{ls:List Loc}{x:α} 
 (h:(zf (fun {β}=>jC am (α:=β)) (lk T.tyL) (lk T.ptL) (fun t=>(lk T.pnL t).isSome) t o fun d s p=>k' (d,s,p)).Runs g ls x):As g (fun k=>zf fq (kv P) (EE P) (fun _=>true) t o fun d s p=>k (d,s,p)) k' ls x:=by
 unfold zf at h;rcases hT.ty t with e|⟨ti,e,hti⟩
 ·simp only[e]at h;split at h
  case isFalse=>exact h.elim
  rename_i hp;rcases hT.pn t with f|⟨_,_,f⟩
  ·simp[f]at hp
  obtain⟨v,ls1,h1,h2⟩:=yK h;cases v with
  | pt r j=>
    rcases hT.pt t with e3|⟨ti,e3,e4⟩
    ·simp[e3,Rd.Runs]at h1
    ·simp only[e3]at h1;split at h1
     ·rename_i hpos;obtain⟨hs,ls2,h3,h4⟩:=pH h1;exact⟨(_,_,_),ls2,h3,fun k y hy=>by unfold zf;simp only[f,if_true];exact h2 _ y (by simp only[e4,hpos,if_true];exact h4 _ y hy)⟩
     ·exact h1.elim
  |_=>exact h1.elim
 ·simp only[e]at h;obtain⟨v,ls1,h1,h2⟩:=Cj h;cases v with
  | one a=>
    simp only at h1;split at h1
    ·exact h1.elim
    ·rename_i hb;obtain⟨l,ls2,h3,h4⟩:=lp h1;simp only at h3;split at h3
     ·refine⟨(_,_,_),ls2,h3,fun k y hy=>?_⟩;unfold zf;simp only[hti];refine h2 _ y ?_;simp only;rw[VO hb];exact h4 _ y hy
     ·exact h3.elim
  | agg as=>
    simp only at h1;split at h1
    ·rename_i hb;obtain⟨l,ls2,h3,h4⟩:=lp h1;refine⟨(_,_,_),ls2,h3,fun k y hy=>?_⟩;unfold zf;simp only[hti];refine h2 _ y ?_;simp only;rw[VN hb];exact h4 _ y hy
    ·exact h1.elim
  |tup rs=>exact h1.elim
theorem rQ (hT:bF P T){α:Type}:∀ {ts:List TypeId} {xs:List Operand} {k':List DV×List (Nat×Nat)×List kn->Rd α} {ls:List Loc} {x:α},
 (qD (fun {β}=>jC am (α:=β)) (lk T.tyL) (lk T.ptL) (fun t=>(lk T.pnL t).isSome) ts xs fun d s p=>k' (d,s,p)).Runs g ls x->As g (fun k=>qD fq (kv P) (EE P) (fun _=>true) ts xs fun d s p=>k (d,s,p)) k' ls x
 |[],[],_,ls,_,h=>⟨(_,_,_),ls,h,fun _ _ hy=>hy⟩
 |[],_::_,_,_,_,h=>h.elim
 |_::_,[],_,_,_,h=>h.elim
 | t::ts,o::xs,k',_,_,h=>by
   obtain⟨⟨d,s,p⟩,ls1,h1,h2⟩:=Ix hT (k':=fun q=>qD (fun {β}=>jC am (α:=β)) (lk T.tyL) (lk T.ptL) (fun t=>(lk T.pnL t).isSome) ts xs fun ds srcs pts=>k' (q.1::ds,q.2.1++srcs,q.2.2++pts)) h;obtain⟨⟨ds,ss,ps⟩,ls2,h3,h4⟩:=rQ hT (k':=fun q=>k' (d::q.1,s++q.2.1,p++q.2.2)) h1;exact⟨(_,_,_),ls2,h3,fun k y hy=>h2 (fun q=>qD fq (kv P) (EE P) (fun _=>true) ts xs fun ds srcs pts=>k (q.1::ds,q.2.1++srcs,q.2.2++pts)) y (h4 (fun q=>k (d::q.1,s++q.2.1,p++q.2.2)) y hy)⟩
theorem BA (hT:bF P T){o:Oper}{f:FuncId}{ts:Array TypeId}{args:Array Operand}{mk:PK}{ls:List Loc}{ws:List W}(hc:jf o=some (f,ts,args))(hmk:∀ ds pre outs res,mk ds=some (pre,outs,res)->pre ()->yt P f ds outs res) 
 (h:(sq am.pr (fun {β}=>jC am (α:=β)) (lk T.tyL) (lk T.ptL) (fun t=>(lk T.pnL t).isSome) n o.dst (lk T.fnL f).isSome ts args mk (fF am)).Runs g ls (.ws ws)):fm P n o g ls ws:=by
 refine .inr (.inr (.inr ⟨sq lc fq (kv P) (EE P) (fun _=>true) n o.dst (dn P f) ts args mk dM,?_,?_⟩))
 ·intro cx G g a w ls ws hn hS h K Q hk;subst hn;exact zY (np hc) hS hmk h hk
 ·rw[show am.pr=lc from rfl,show fF am=dM from by funext d res;exact jz d res]at h;unfold sq at h ⊢;split at h
  ·rename_i hb';have hb:dn P f=true:=by
    rcases hT.fn f with e|⟨_,_,e⟩
    ·rw[e]at hb';cases hb'
    ·exact e
   rw[VN hb];obtain⟨⟨ds,ss,ps⟩,ls1,h1,h2⟩:=rQ hT (k':=fun q=>match mk q.1 with
    | some (pre,outs,res)=>if mS q.2.2&&q.2.1.all (fun s=>q.2.2.all fun p=> !aew s p)then .req (lc pre) (FX q.2.2 outs fun ws=>match o.dst with
       |some _=>fresh n o.dst fun d=>.ret (Out.ws (ws++dM d res))
       |none=>.ret (Out.ws ws))else .fail
    |none=>.fail) h
   exact h2 (fun q=>match mk q.1 with
    | some (pre,outs,res)=>if mS q.2.2&&q.2.1.all (fun s=>q.2.2.all fun p=> !aew s p)then .req (lc pre) (FX q.2.2 outs fun ws=>match o.dst with
       |some _=>fresh n o.dst fun d=>.ret (Out.ws (ws++dM d res))
       |none=>.ret (Out.ws ws))else .fail
    |none=>.fail) _ h1
  ·exact h.elim
theorem Di (hT:bF P T){ct:F7}{d:Option Tmp}{t:Tmp}{ts:Array TypeId}{args:Array Operand}{ls:List Loc}{out:Out} 
 (h:(zU T am ct n d t ts args).Runs g ls out):(zT P ct.rd n d t ts args).Runs g ls out:=by
 unfold zU at h;obtain⟨v,ls1,h1,h2⟩:=yK h;cases v with
 | fn f caps=>
   obtain⟨ds,ls2,h3,h4⟩:=qX hT h1;obtain⟨recs,ls3,h5,h6⟩:=kC h3;unfold zT;refine h2 _ _ (h4 _ _ (h6 _ _ ?_));cases hm:ct.rd f (ds++recs.map .ptr)with
   |none=>simp[hm,Rd.Runs]at h5
   | some pr=>
     obtain⟨pre,res⟩:=pr;simp only[hm]at h5 ⊢;obtain⟨hp,hb,h5⟩:=h5;refine⟨⟨hp,?_⟩,?_⟩
     ·rcases hT.fn f with e|⟨_,_,e⟩
      ·have hb:(lk T.fnL f).isSome=true:=hb;rw[e]at hb;cases hb
      ·exact e
     ·rw[show fF am=dM from by funext d res;exact jz d res]at h5;exact h5
 |_=>exact h1.elim
theorem Bw (hT:bF P T){d:Option Tmp}{t:Tmp}{ts:Array TypeId}{args:Array Operand}{pt:FuncId->Option PK}{ls:List Loc}{out:Out} 
 (h:(oQ lc (fun {β}=>jC am (α:=β)) (lk T.tyL) (lk T.ptL) (fun t=>(lk T.pnL t).isSome) n d (fun f=>(lk T.fnL f).isSome) t ts args pt (fF am)).Runs g ls out):
 (oQ lc fq (kv P) (EE P) (fun _=>true) n d (dn P) t ts args pt dM).Runs g ls out:=by
 unfold oQ at h ⊢;refine du ?_ h;intro v ls h;cases v with
 | fn f caps=>
   simp only at h ⊢;cases hm:pt f with
   |none=>simp[hm,Rd.Runs]at h
   | some mk=>
     simp only[hm]at h ⊢;rcases hT.fn f with e|⟨_,e1,e2⟩
     ·simp[e,Rd.Runs]at h
     rw[VN e2];rw[VN (by rw[e1];rfl)]at h;rw[show fF am=dM from by funext d res;exact jz d res]at h;obtain⟨⟨ds,ss,ps⟩,ls1,h1,h2⟩:=rQ hT (k':=fun q=>vl caps fun ds2 pts2=>Bq lc n d (q.1++ds2) q.2.1 (q.2.2++pts2) mk dM) h;exact h2 (fun q=>vl caps fun ds2 pts2=>Bq lc n d (q.1++ds2) q.2.1 (q.2.2++pts2) mk dM) _ h1
 |_=>exact h.elim
def Dk (P:Program)(ct:F7)(n:Nat)(d:Option Tmp)(t:Tmp)(ts:Array TypeId)(args:Array Operand):Rd Out:=
 fY (.tmp t) fun
  | .fn f _=>match ct.pt f with
    |some _=>oQ lc fq (kv P) (EE P) (fun _=>true) n d (dn P) t ts args ct.pt dM
    |none=>zT P ct.rd n d t ts args
  |_=>.fail
theorem BC (hT:bF P T){ct:F7}(hct:xI P ct){o:Oper}{t:Tmp}{ts:Array TypeId}{args:Array Operand}{ls:List Loc}{ws:List W}(ho:o.op=.call {callee:=.value (.tmp t),args:=args,argTypes:=ts}) 
 (h:(Aa T am ct n o.dst t ts args).Runs g ls (.ws ws)):fm P n o g ls ws:=by
 refine .inr (.inr (.inr ⟨Dk P ct n o.dst t ts args,?_,?_⟩))
 ·intro cx G g a w ls ws hn hS h K Q hk;subst hn;unfold Dk at h;obtain⟨x0,ls1,hx,h⟩:=bi hS h;cases x0 with
  | fn f caps=>
    simp only at h;split at h
    ·exact xB ho hS (fun f mk e=>hct.2.2.1 f mk e) h hk
    ·exact zV (fun f ds pre res e hp=>hct.1 f ds pre res e hp) ho hS h hk
  |_=>exact h.elim
 ·unfold Aa at h;unfold Dk;refine du ?_ h;intro v ls h;cases v with
  | fn f caps=>
    simp only at h ⊢;cases hm:ct.pt f with
    |some mk=>simp only[hm]at h ⊢;exact Bw hT h
    |none=>simp only[hm]at h ⊢;exact Di hT h
  |_=>exact h.elim
theorem Bz (hT:bF P T){o:Oper}{c:Call}{f:FuncId}{mk:NK}{ls:List Loc}{ws:List W}(e1:o.op=.call c)(e2:c.callee=.value (.func f))(hmk:∀ ds pre hs,mk ds=some (pre,hs)->pre ()->Fc P f ds hs) 
 (h:(so lc n o.dst (lk T.fnL f).isSome c.args mk).Runs g ls (.ws ws)):fm P n o g ls ws:=by
 refine .inr (.inr (.inr ⟨so lc n o.dst (dn P f) c.args mk,?_,?_⟩))
 ·intro cx G g a w ls ws hn hS h K Q hk;subst hn;obtain⟨cal,as,ats⟩:=c;simp only at e2;subst e2;exact zX e1 hS hmk h hk
 ·unfold so at h ⊢;split at h
  ·rename_i hb';have hb:dn P f=true:=by
    rcases hT.fn f with e|⟨_,_,e⟩
    ·rw[e]at hb';cases hb'
    ·exact e
   rw[VN hb];exact h
  ·exact h.elim
theorem Ah (hT:bF P T){o:Oper}{t:TypeId}{x:Operand}{lo hi mx:Option Operand}{ls:List Loc}{ws:List W}(ho:o.op=.slice t x lo hi mx)(h:(wO T am n o.dst t x lo hi mx).Runs g ls (.ws ws)):fm P n o g ls ws:=by
 refine .inr (.inr (.inr ⟨fY x fun
  | .vn _ _ _ _ _ _ _=>qO lc (fun lo i=>lo+i.toNat) (fun h l=>h.toNat-l.toNat) (fun n=>n) (xv P) n o.dst t x lo hi mx
  |_=>sD P n o.dst t x lo hi mx,?_,?_⟩))
 ·intro cx G g a w ls ws hn hS h K Q hk;subst hn;obtain⟨x0,ls1,_,h⟩:=bi hS h;cases x0 with
  |vn r j ver iv p lo m=>exact xF ho hS h hk
  |_=>exact qP ho hS h hk
 ·unfold wO at h;refine du ?_ h;intro v ls h;cases v with
  | vn r j ver iv p lo m=>
    simp only at h ⊢;unfold qO at h ⊢;rcases hT.el t with e|⟨y,e,e2⟩
    ·rw[e]at h;exact h.elim
    ·rw[e]at h;rw[e2];exact h
  |_=>exact Dp hT h
theorem lX {w:World}{op:BinOp}{t:TypeId}{x y:Operand}{p q:Option Addr}{k l k' l':Nat}:(eqGuard op t x y (.slice p k l) (.slice q k' l')).run P w=.ok () w:=by
 cases op<;>simp[eqGuard]
theorem tZ {w:World}{t e:TypeId}(hu:P.underlying t=some (.slice e))(p:Option Addr)(k l:Nat):
 (binOp .eql t (.slice p k l) (.slice none 0 0)).run P w=.ok (.bool p.isNone) w/\(binOp .neq t (.slice p k l) (.slice none 0 0)).run P w=.ok (.bool (!p.isNone)) w:=by
 have q1:∀ d:Nat,(Op.equalIn (d+1) t (.slice p k l) (.slice none 0 0)).run P w=.ok p.isNone w:=fun d=>by
  cases p<;>simp[Op.equalIn,run_underlying hu]
 have q:(Op.equal t (.slice p k l) (.slice none 0 0)).run P w=.ok p.isNone w:=q1 9999
 constructor<;>simp[binOp,q]
theorem yn {o:Oper}{op:BinOp}{t t':TypeId}{x:Operand}{b nb:Bool}{ls:List Loc}{ws:List W}(ho:o.op=.binOp op t x (.const (.slice none 0 0)) t'){e:TypeId}(hu:P.underlying t=some (.slice e)) 
 (hop:(op=.eql/\b=true/\nb=false)\/(op=.neq/\b=false/\nb=true)) (h:(BK am n o.dst b nb x).Runs g ls (.ws ws)):fm P n o g ls ws:=by
 refine .inr (.inr (.inr ⟨BK am n o.dst b nb x,?_,h⟩));intro cx G g a w ls ws hn hS h K Q hk;subst hn;unfold BK at h;obtain⟨x0,ls1,hx,h⟩:=bi hS h;have hy':a.eval (.const (.slice none 0 0))=.slice none 0 0:=rfl;have key:∀ (v:Bool) (p:Option Addr) (k l:Nat),a.eval x=.slice p k l->(op=.eql->v=p.isNone)->(op=.neq->v= !p.isNone)->(bE cx.n o.dst (.k v)).Runs g ls1 (.ws ws)->o.wp P a w K Q:=by
  intro v p k l hx' q1 q2 h;refine aT hS h (v:=.bool v) (by simp[cL,gD]) ?_ hk;unfold execOp;rcases hop with⟨rfl,_⟩|⟨rfl,_⟩
  ·rw[q1 rfl];simp[ho,hx',hy',lX,(tZ hu p k l).1]
  ·rw[q2 rfl];simp[ho,hx',hy',lX,(tZ hu p k l).2]
 cases x0 with
 | nl=>
   refine key b none 0 0 hx ?_ ?_ h<;>rintro rfl<;>rcases hop with⟨q,rfl,_⟩|⟨q,rfl,_⟩<;>first|rfl|(cases q)
 | v y=>
   split at h
   ·rename_i e1;cases e1
   ·rename_i e1;cases e1;refine key b none 0 0 hx ?_ ?_ h<;>rintro rfl<;>rcases hop with⟨q,rfl,_⟩|⟨q,rfl,_⟩<;>first|rfl|(cases q)
   all_goals first|exact h.elim|(rename_i e1;cases e1)
 | vw r j ver lo m=>
   simp only at h;obtain⟨hv,ls2,q1,_,h⟩:=bA h;split at h
   case h_2=>exact h.elim
   rename_i sz es hc;split at h
   case isFalse=>exact h.elim
   rename_i hver;simp only[beq_iff_eq]at hver;simp only[Rd.Runs]at h;obtain⟨hm,h⟩:=h;have hm:0<m:=hm;obtain⟨h2,f1,f2,f3⟩:=hx;rw[q1]at f1;cases f1;obtain⟨f4,base,len,cap,base',cap',g1,g2,g3,g4,g5,g6⟩:=f3 hver sz es hc;rcases g6 with⟨_,c0⟩|⟨b1,off,off',r1,r2,_⟩;omega
   ·refine aT hS h (v:=.bool nb) (by simp[cL,gD]) ?_ hk;unfold execOp;rcases hop with⟨rfl,_,rfl⟩|⟨rfl,_,rfl⟩
    ·simp[ho,g2,r2,hy',lX,(tZ hu _ _ _).1]
    ·simp[ho,g2,r2,hy',lX,(tZ hu _ _ _).2]
 |_=>exact h.elim
theorem Aj (hT:bF P T){o:Oper}{t:TypeId}{x y:Operand}{ls:List Loc}{ws:List W}(ho:o.op=.store t x y)(hd:o.dst=none)(h:(wP T am t x y).Runs g ls (.ws ws)):fm P n o g ls ws:=by
 refine .inr (.inr (.inr ⟨ev y fun
  | .one (.vn _ _ _ _ _ _ _)=>qQ lc mR (fun es lo m=>(es.drop lo).take m) pm (kv P) t x y
  |_=>sE P t x y,?_,?_⟩))
 ·intro cx G g a w ls ws hn hS h K Q hk;subst hn;obtain⟨x0,ls1,_,h⟩:=dx hS h;split at h
  ·exact xG ho hd hS h hk
  ·exact qR ho hd hS h hk
 ·unfold wP at h;refine oA ?_ h;intro v ls h;split at h
  ·try simp only
   unfold qQ at h ⊢;rcases hT.ty t with e|⟨z,e,e2⟩
   ·rw[e]at h;exact h.elim
   ·rw[e]at h;rw[e2];exact h
  ·rename_i hne
   first
    |exact wQ hT h
    | (split
       ·exact absurd rfl (hne _ _ _ _ _ _ _)
       ·exact wQ hT h)
theorem xD (hT:bF P T){o:Oper}{t:TypeId}{r:Option Operand}{ls:List Loc}{ws:List W}(ho:o.op=.makeMap t r)(h:(lN (lk T.mpL) n o.dst t r).Runs g ls (.ws ws)):fm P n o g ls ws:=by
 refine .inr (.inr (.inr ⟨lN (zb P) n o.dst t r,?_,?_⟩))
 ·intro cx G g a w ls ws hn hS h K Q hk;subst hn;exact wM ho hS h hk
 ·unfold lN at h ⊢;rcases hT.mp t with e|⟨x,e,e2⟩
  ·cases r<;>simp[e,Rd.Runs]at h
  ·rw[e]at h;rw[e2];exact h
theorem BL (hT:bF P T){o:Oper}{t:TypeId}{x:Operand}{ls:List Loc}{ws:List W}(ho:o.op=.range t x)(h:(sC (lk T.mpL) n o.dst t x).Runs g ls (.ws ws)):fm P n o g ls ws:=by
 refine .inr (.inr (.inr ⟨sC (zb P) n o.dst t x,?_,?_⟩))
 ·intro cx G g a w ls ws hn hS h K Q hk;subst hn;exact Af ho hS h hk
 ·unfold sC at h ⊢;rcases hT.mp t with e|⟨y,e,e2⟩
  ·simp[e,Rd.Runs]at h
  ·rw[e]at h;rw[e2];exact h
theorem BE {o:Oper}{x:Operand}{ls:List Loc}{ws:List W}(ho:o.op=.entry x)(h:(wJ n o.dst x).Runs g ls (.ws ws)):fm P n o g ls ws:=by
 refine .inr (.inr (.inr ⟨wJ n o.dst x,?_,h⟩));intro cx G g a w ls ws hn hS h K Q hk;subst hn;exact Ab ho hS h hk
theorem BF (hT:bF P T){o:Oper}{t:TypeId}{x:Operand}{f:Nat}{ls:List Loc}{ws:List W}(ho:o.op=.field t x f)(h:(sv (lk T.cmL) n o.dst t x f).Runs g ls (.ws ws)):fm P n o g ls ws:=by
 refine .inr (.inr (.inr ⟨sv (LX P) n o.dst t x f,?_,?_⟩))
 ·intro cx G g a w ls ws hn hS h K Q hk;subst hn;exact Ac ho hS h hk
 ·unfold sv at h ⊢;rcases hT.cm t with e|⟨y,e,e2⟩
  ·rw[e]at h;exact h.elim
  ·rw[e]at h;rw[e2];exact h
theorem Ad (hT:bF P T){o:Oper}{t:TypeId}{x i:Operand}{k:Bool}{ls:List Loc}{ws:List W}(ho:o.op=.lookup t x i k)(h:(oR mgbI iM (lk T.mpL) n o.dst t x i k).Runs g ls (.ws ws)):fm P n o g ls ws:=by
 refine .inr (.inr (.inr ⟨oR mgbI iM (zb P) n o.dst t x i k,?_,?_⟩))
 ·intro cx G g a w ls ws hn hS h K Q hk;subst hn;exact xC ho hS h hk
 ·unfold oR at h ⊢;rcases hT.mp t with e|⟨y,e,e2⟩
  ·cases k<;>simp[e,Rd.Runs]at h
  ·rw[e]at h;rw[e2];exact h
theorem Ae (hT:bF P T){o:Oper}{t:TypeId}{m k v:Operand}{ls:List Loc}{ws:List W}(ho:o.op=.mapUpdate t m k v)(hd:o.dst=none)(h:(oS lP (lk T.mpL) t m k v).Runs g ls (.ws ws)):fm P n o g ls ws:=by
 refine .inr (.inr (.inr ⟨oS lP (zb P) t m k v,?_,?_⟩))
 ·intro cx G g a w ls ws hn hS h K Q hk;subst hn;exact xE ho hd hS h hk
 ·unfold oS at h ⊢;rcases hT.mp t with e|⟨y,e,e2⟩
  ·simp[e,Rd.Runs]at h
  ·rw[e]at h;rw[e2];exact h
theorem wN (hT:bF P T){o:Oper}{t:TypeId}{m k:Operand}{ls:List Loc}{ws:List W}(ho:o.op=.mapEntry t m k)(h:(jB mgbI iM lP (lk T.mpL) n o.dst t m k).Runs g ls (.ws ws)):fm P n o g ls ws:=by
 refine .inr (.inr (.inr ⟨jB mgbI iM lP (zb P) n o.dst t m k,?_,?_⟩))
 ·intro cx G g a w ls ws hn hS h K Q hk;subst hn;exact tY ho hS h hk
 ·unfold jB at h ⊢;rcases hT.mp t with e|⟨y,e,e2⟩
  ·simp[e,Rd.Runs]at h
  ·rw[e]at h;rw[e2];exact h
theorem su (hT:bF P T){o:Oper}{t:TypeId}{m s x:Operand}{ls:List Loc}{ws:List W}(ho:o.op=.entryStore t m s x)(hd:o.dst=none)(h:(gB lP (lk T.mpL) t m s x).Runs g ls (.ws ws)):fm P n o g ls ws:=by
 refine .inr (.inr (.inr ⟨gB lP (zb P) t m s x,?_,?_⟩))
 ·intro cx G g a w ls ws hn hS h K Q hk;subst hn;exact qN ho hd hS h hk
 ·unfold gB at h ⊢;rcases hT.mp t with e|⟨y,e,e2⟩
  ·simp[e,Rd.Runs]at h
  ·rw[e]at h;rw[e2];exact h
theorem FT {tk:∀ {β:Type},List (Option Nat)->List A->(List (L×Option Nat)->List (Nat×Nat)->Rd β)->Rd β}(hT:bF P T)(htk:∀ {β:Type}, @tk β= @cX β){α:Type}{t:TypeId}{x:Operand}{k' k:DV->List (Nat×Nat)->Rd α}{y:α}{ls:List Loc} 
 (hk:∀ d s ls,(k' d s).Runs g ls y->(k d s).Runs g ls y) (h:(FR tk (lk T.tyL) t x k').Runs g ls y):(FR cX (kv P) t x k).Runs g ls y:=by
 unfold FR at h ⊢;rcases hT.ty t with e|⟨ti,e,e2⟩
 ·rw[e]at h;exact h.elim
 ·rw[e]at h;rw[e2];refine oA ?_ h;intro v ls h;cases v with
  | one a=>
    simp only[htk]at h ⊢;split at h
    ·exact h.elim
    ·rename_i hag;rw[VO hag];refine hY ?_ h;intro lts src ls h;split at h
     ·exact hk _ _ _ h
     ·exact h.elim
  | agg as=>
    simp only[htk]at h ⊢;split at h
    ·rename_i hag;rw[VN hag];refine hY ?_ h;intro lts src ls h;exact hk _ _ _ h
    ·exact h.elim
  |tup rs=>exact h.elim
theorem wz {tk:∀ {β:Type},List (Option Nat)->List A->(List (L×Option Nat)->List (Nat×Nat)->Rd β)->Rd β}(hT:bF P T)(htk:∀ {β:Type}, @tk β= @cX β){α:Type}:∀ {ts:List TypeId} {xs:List Operand} {k' k:List DV->List (Nat×Nat)->Rd α} {y:α} {ls:List Loc},
 (∀ d s ls,(k' d s).Runs g ls y->(k d s).Runs g ls y)->(wy tk (lk T.tyL) ts xs k').Runs g ls y->(wy cX (kv P) ts xs k).Runs g ls y
 |[],[],k',k,y,ls,hk,h=>hk _ _ _ h
 |[],_::_,k',k,y,ls,hk,h=>h.elim
 |_::_,[],k',k,y,ls,hk,h=>h.elim
 | t::ts,x::xs,k',k,y,ls,hk,h=>by
   simp only[wy]at h ⊢;refine FT hT htk ?_ h;intro d s ls h;exact wz hT htk (fun d s ls h=>hk _ _ _ h) h
theorem BB (hT:bF P T){o:Oper}{c:Call}{f:FuncId}{mk:Nt}{ls:List Loc}{ws:List W}(e1:o.op=.call c)(e2:c.callee=.value (.func f))(hmk:∀ ds pre res,mk ds=some (pre,res)->pre ()->B5 P f ds res) 
 (h:(sr (fun {β}=>iW am (α:=β)) (lk T.tyL) lc n o.dst (lk T.fnL f).isSome c.argTypes c.args mk (fF am)).Runs g ls (.ws ws)):fm P n o g ls ws:=by
 refine .inr (.inr (.inr ⟨sr cX (kv P) lc n o.dst (dn P f) c.argTypes c.args mk dM,?_,?_⟩))
 ·intro cx G g a w ls ws hn hS h K Q hk;subst hn;obtain⟨cal,as,ats⟩:=c;simp only at e2;subst e2;exact zZ e1 hS hmk h hk
 ·unfold sr at h ⊢;rcases hT.fn f with e|⟨_,e,e3⟩
  ·rw[e]at h;exact h.elim
  ·rw[VN e3];rw[VN (by rw[e];rfl)]at h;rw[show fF am=dM from by funext d res;exact jz d res]at h;exact wz hT (by intro β;funext sl as k;exact iX sl as k) (fun _ _ _ h=>h) h
theorem Ib (b:Bool):mmO am b=rM b:=by
 funext vs
 match vs with
 |[]=>rfl
 |[x]=>cases x<;>rfl
 | [x,y]=>
   cases x<;>cases y<;>first|rfl|skip
   rename_i k a k' b';simp only[mmO,rM];by_cases e:k=k'
   ·subst e;simp only[beq_self_eq_true,if_true];rfl
   ·simp[e]
 |x::y::z::vs=>cases x<;>cases y<;>rfl
theorem Jl (hT:bF P T){ct:F7}(hct:xI P ct){o:Oper}{ls:List Loc}{ws:List W}(h:(oZ T am ct n o).Runs g ls (.ws ws)):fm P n o g ls ws:=by
 by_cases hc:∃ c f,o.op=.call c/\c.callee=.value (.func f)
 ·obtain⟨c,f,e1,e2⟩:=hc;unfold oZ at h;simp only[e1,e2]at h;cases hnw:ct.nw f with
  | some mk=>
    simp only[hnw]at h;exact Bz hT e1 e2 (hct.2.2.2.1 f mk hnw) h
  |none=>
  simp only[hnw]at h;cases htk:ct.tk f with
  | some mk=>
    simp only[htk]at h;exact BB hT e1 e2 (hct.2.2.2.2 f mk htk) h
  |none=>
  simp only[htk]at h;cases hpt:ct.pt f with
  | some mk=>
    simp only[hpt]at h;exact BA hT (by unfold jf;simp only[e1,e2]) (hct.2.2.1 f mk hpt) h
  |none=>
  simp only[hpt]at h;cases hmu:ct.mu f with
  | none=>
    simp only[hmu]at h;exact Dl hT hct (by unfold jf;simp only[e1,e2]) h
  | some mk=>
    simp only[hmu]at h;exact aex hT (by unfold jf;simp only[e1,e2]) (hct.2.1 f mk hmu) h
 by_cases hc2:∃ c t,o.op=.call c/\c.callee=.value (.tmp t)
 ·obtain⟨c,t,e1,e2⟩:=hc2;unfold oZ at h;simp only[e1,e2]at h;exact BC hT hct (by rw[e1];obtain⟨cal,as,ats⟩:=c;simp only at e2;rw[e2]) h
 by_cases hsl:∃ t x lo hi mx,o.op=.slice t x lo hi mx
 ·obtain⟨t,x,lo,hi,mx,e1⟩:=hsl;unfold oZ at h;simp only[e1]at h;exact Ah hT e1 h
 by_cases hst:∃ t x y,o.op=.store t x y
 ·obtain⟨t,x,y,e1⟩:=hst;unfold oZ at h;simp only[e1]at h;split at h
  ·rename_i hd;exact Aj hT e1 hd h
  ·exact h.elim
 by_cases hnx:∃ op t x t' q,o.op=.binOp op t x (.const (.slice none 0 0)) t'/\lk T.elL t=some q
 ·obtain⟨op,t,x,t',q,e1,e2⟩:=hnx;unfold oZ at h;simp only[e1,zP,e2]at h;rcases hT.el t with e|⟨y,e,e3⟩
  ·rw[e]at e2;cases e2
  obtain⟨e0,hu⟩:∃ e0,P.underlying t=some (.slice e0):=by
   unfold xv at e3;split at e3
   ·rename_i e0 hu;exact⟨e0,hu⟩
   ·cases e3
  split at h
  ·exact yn e1 hu (.inl ⟨rfl,rfl,rfl⟩) h
  ·exact yn e1 hu (.inr ⟨rfl,rfl,rfl⟩) h
  ·exact h.elim
 have hnl:∀ op t x y t',o.op=.binOp op t x y t'->(zP T am n o.dst op t x y).Runs g ls (.ws ws)->(zO T am n o.dst op t x y).Runs g ls (.ws ws):=by
  intro op t x y t' e1 h;unfold zP at h;split at h
  ·rename_i q e2;exact absurd ⟨op,t,x,t',q,e1,e2⟩ hnx
  ·exact h
 by_cases hmk:∃ t r,o.op=.makeMap t r
 ·obtain⟨t,r,e1⟩:=hmk;unfold oZ at h;simp only[e1]at h;exact xD hT e1 h
 by_cases hfi:∃ t x f,o.op=.field t x f
 ·obtain⟨t,x,f,e1⟩:=hfi;unfold oZ at h;simp only[e1]at h;exact BF hT e1 h
 by_cases hrg:∃ t x,o.op=.range t x
 ·obtain⟨t,x,e1⟩:=hrg;unfold oZ at h;simp only[e1]at h;exact BL hT e1 h
 by_cases hen:∃ x,o.op=.entry x
 ·obtain⟨x,e1⟩:=hen;unfold oZ at h;simp only[e1]at h;exact BE e1 h
 by_cases hlo:∃ t x i k,o.op=.lookup t x i k
 ·obtain⟨t,x,i,k,e1⟩:=hlo;unfold oZ at h;simp only[e1]at h;exact Ad hT e1 h
 by_cases hme:∃ t m k,o.op=.mapEntry t m k
 ·obtain⟨t,m,k,e1⟩:=hme;unfold oZ at h;simp only[e1]at h;exact wN hT e1 h
 by_cases hes:∃ t m s x,o.op=.entryStore t m s x
 ·obtain⟨t,m,s,x,e1⟩:=hes;unfold oZ at h;simp only[e1]at h;split at h
  ·rename_i hd;exact su hT e1 hd h
  ·exact h.elim
 by_cases hup:∃ t m k v,o.op=.mapUpdate t m k v
 ·obtain⟨t,m,k,v,e1⟩:=hup;unfold oZ at h;simp only[e1]at h;split at h
  ·rename_i hd;exact Ae hT e1 hd h
  ·exact h.elim
 ·refine .inl ⟨?_,?_⟩
  ·unfold jf;split
   ·rename_i c e1;split
    ·rename_i f e2;exact absurd ⟨c,f,e1,e2⟩ hc
    ·rfl
   ·rfl
  ·unfold oZ at h;unfold QP;generalize hop:o.op=op at h hc hc2 hmk hfi hrg hen hlo hme hes hup hsl hst ⊢;cases op with
   |makeMap t r=>exact absurd ⟨t,r,rfl⟩ hmk
   |field t x f=>exact absurd ⟨t,x,f,rfl⟩ hfi
   |range t x=>exact absurd ⟨t,x,rfl⟩ hrg
   |entry x=>exact absurd ⟨x,rfl⟩ hen
   |lookup t x i k=>exact absurd ⟨t,x,i,k,rfl⟩ hlo
   |mapUpdate t m k v=>exact absurd ⟨t,m,k,v,rfl⟩ hup
   |mapEntry t m k=>exact absurd ⟨t,m,k,rfl⟩ hme
   |entryStore t m s x=>exact absurd ⟨t,m,s,x,rfl⟩ hes
   | call c=>
     simp only at h ⊢;cases hcal:c.callee with
     | value x=>
       cases x with
       |func f=>exact absurd ⟨c,f,rfl,hcal⟩ hc
       |tmp t=>exact absurd ⟨c,t,rfl,hcal⟩ hc2
       |_=>simp only[hcal]at h;exact h.elim
     | builtin b=>
       simp only[hcal]at h ⊢;cases b with
       | len=>
         simp only at h ⊢;split at h
         ·rename_i x t e1 e2;simp only[e1,e2];rcases hT.sl t with e|⟨_,e,e3⟩
          ·simp[e,Rd.Runs]at h
          simp only[e,e3,Vi,if_true]at h ⊢;refine du ?_ h;intro a ls h;exact HX h
         ·exact h.elim
       | append=>
         simp only at h ⊢;split at h
         ·rename_i e1 e2;simp only[e1,e2];exact zN hT h
         ·exact h.elim
       |min=>simp only[Ib]at h ⊢;exact h
       |max=>simp only[Ib]at h ⊢;exact h
       |_=>exact h
     |_=>simp only[hcal]at h;exact h.elim
   |box t x=>exact Ji hT h
   |alloc t=>exact De hT h
   |build t parts=>exact Dh hT h
   |fieldAddr s x f=>exact wK hT h
   |buildSlice t len parts=>exact tX hT h
   |load t x=>exact FZ hT h
   |store t x y=>exact absurd ⟨t,x,y,rfl⟩ hst
   |indexAddr t x i=>exact wL hT h
   |binOp op t x y t'=>exact FY hT (hnl op t x y t' hop h)
   |unOp op t x=>exact Ls h
   |makeSlice t l c=>exact F1 hT h
   |slice t x lo hi mx=>exact absurd ⟨t,x,lo,hi,mx,rfl⟩ hsl
   |assign x=>exact h
   |pick c a b=>exact h
   | convert s t x=>
     simp only at h ⊢;refine pB ?_ h;intro _ a ls h;rcases hT.it s with e|⟨k1,e,e3⟩
     ·simp[e,Rd.Runs]at h
     rcases hT.it t with f|⟨k2,f,f3⟩
     ·simp[e,f,Rd.Runs]at h
     simp only[e,e3,f,f3]at h ⊢;exact h
   |_=>exact h
end
end Go.V
namespace Go.V
def GN (b:Bool)(A B:Unit->Prop):Prop:=(Vj (motive:=fun _=>Unit->Prop) B A b:Unit->Prop) ()
theorem b8 {b:Bool}{A B:Unit->Prop}(h1:b=true->A ())(h2:b=false->B ()):(Vj (motive:=fun _=>Unit->Prop) B A b:Unit->Prop) ():=by
 cases b with
 |true=>exact h1 rfl
 |false=>exact h2 rfl
def Rd.wpU {α:Type}(g:Gm):Rd α->List Loc->(List Loc->α->Prop)->Prop
 | .fail,_,_=>False
 | .ret a,t,K=>K t a
 | .get l k,t,K=>(k (g l)).wpU g (l::t) K
 | .req c k,t,K=>c/\k.wpU g t K
 | .br b k1 k2,t,K=>GN b (fun _=>k1.wpU g t K) (fun _=>k2.wpU g t K)
theorem Rd.wpU_runs {α:Type}{g:Gm}:∀ {rd:Rd α} {t:List Loc} {K:List Loc->α->Prop},rd.wpU g t K->∃ ls x t',rd.Runs g ls x/\K t' x/\(∀ l∈ls,l∈t')/\(∀ l∈t,l∈t')
 | .fail,_,_,h=>h.elim
 | .ret b,t,_,h=>⟨[],b,t,⟨rfl,rfl⟩,h,by simp,fun _ h=>h⟩
 | .get l k,t,_,h=>by
   obtain⟨ls,x,t',h1,h2,h3,h4⟩:=Rd.wpU_runs (rd:=k (g l)) h;refine⟨l::ls,x,t',⟨ls,rfl,h1⟩,h2,?_,fun y hy=>h4 y (by simp[hy])⟩;intro y hy;rcases Zk.1 hy with rfl|hy;exact h4 _ (by simp);exact h3 _ hy
 | .req c k,t,_,h=>by
   obtain⟨ls,x,t',h1,h2,h3⟩:=Rd.wpU_runs (rd:=k) h.2;exact⟨ls,x,t',⟨h.1,h1⟩,h2,h3⟩
 | .br b k1 k2,t,_,h=>by
   cases b with
   |true=>obtain⟨ls,x,t',h1,h2⟩:=Rd.wpU_runs (rd:=k1) h;exact⟨ls,x,t',.inl ⟨rfl,h1⟩,h2⟩
   |false=>obtain⟨ls,x,t',h1,h2⟩:=Rd.wpU_runs (rd:=k2) h;exact⟨ls,x,t',.inr ⟨rfl,h1⟩,h2⟩
theorem Rd.Runs_congr {α:Type}{g g':Gm}:∀ {rd:Rd α} {ls:List Loc} {x:α},rd.Runs g ls x->(∀ l∈ls,g' l=g l)->rd.Runs g' ls x
 | .fail,_,_,h,_=>h
 | .ret b,_,_,h,_=>h
 | .get l k,_,_,h,hg=>by
   obtain⟨ls',e,h⟩:=h;subst e;refine⟨ls',rfl,?_⟩;rw[hg l (by simp)];exact Rd.Runs_congr h (fun y hy=>hg y (by simp[hy]))
 | .req c k,_,_,h,hg=>⟨h.1,Rd.Runs_congr h.2 hg⟩
 | .br b k1 k2,_,_,h,hg=>by
   rcases h with⟨e,h⟩|⟨e,h⟩;exact .inl ⟨e,Rd.Runs_congr h hg⟩;exact .inr ⟨e,Rd.Runs_congr h hg⟩
def EY (n:Nat)(o:Oper)(ws:List W):Prop:=
 match o.dst with
 |some d=>d<n/\ws=[.reg d (.one (.v undef))]
 |none=>ws=[]
def yq (P:Program)(n:Nat)(all:Array Oper)(o:Oper)(g:Gm)(t:List Loc)(ws:List W):Prop:=
 ∃ ls b,(vI all o).Runs g ls b/\(∀ l∈ls,l∈t)/\
  ((b=true/\∃ ls2,fm P n o g ls2 ws/\∀ l∈ls2,l∈t)\/(b=false/\EY n o ws))
theorem fm.congr {P:Program}{n:Nat}{o:Oper}{g g':Gm}{ls:List Loc}{ws:List W}(h:fm P n o g ls ws)(hg:∀ l∈ls,g' l=g l):fm P n o g' ls ws:=by
 rcases h with⟨h1,h2⟩|⟨f,ts,args,ds,mk,res,h1,h2,h3,h4⟩|⟨f,ts,args,mk,h1,h2,h3⟩|⟨rd,h1,h2⟩;exact .inl ⟨h1,Rd.Runs_congr h2 hg⟩;exact .inr (.inl ⟨f,ts,args,ds,mk,res,h1,Rd.Runs_congr h2 hg,h3,h4⟩);exact .inr (.inr (.inl ⟨f,ts,args,mk,h1,h2,Rd.Runs_congr h3 hg⟩));exact .inr (.inr (.inr ⟨rd,h1,Rd.Runs_congr h2 hg⟩))
theorem yq.congr {P:Program}{n:Nat}{all:Array Oper}{o:Oper}{g g':Gm}{t:List Loc}{ws:List W}(h:yq P n all o g t ws)(hg:∀ l∈t,g' l=g l):yq P n all o g' t ws:=by
 obtain⟨ls,b,h1,h2,h3⟩:=h;refine⟨ls,b,Rd.Runs_congr h1 (fun l hl=>hg l (h2 l hl)),h2,?_⟩;rcases h3 with⟨e,ls2,h4,h5⟩|h3;exact .inl ⟨e,ls2,h4.congr (fun l hl=>hg l (h5 l hl)),h5⟩;exact .inr h3
section
variable {P: Program} {cx: Cx} {a: Act} {w: World}
theorem fm.sound {o:Oper}{g:Gm}{ls:List Loc}{ws:List W}(h:fm P cx.n o g ls ws)(hS:eW cx g a w){K:Act->World->Prop}{Q:Exit->Act->World->Prop} 
 (hk:∀ a' w',eW cx (bh g ws) a' w'->K a' w'):o.wp P a w K Q:=by
 obtain⟨G,hS⟩:=hS;rcases h with⟨_,h2⟩|⟨f,ts,args,ds,mk,res,h1,h2,h3,rfl⟩|⟨f,ts,args,mk,h1,h2,h3⟩|⟨rd,h1,h2⟩;exact F3 hS h2 hk;exact BD (np h1) hS h2 h3 hk;exact zW (np h1) hS h3 h2 hk;exact h1 cx G g a w _ _ rfl hS h2 K Q hk
theorem yq.sound {all:Array Oper}{o:Oper}{g:Gm}{t:List Loc}{ws:List W}(h:yq P cx.n all o g t ws)(hS:eW cx g a w){K:Act->World->Prop}{Q:Exit->Act->World->Prop} 
 (hk:∀ a' w',eW cx (bh g ws) a' w'->K a' w'):
 if Region.wanted o (yielded all a.tmps)then o.wp P a w K Q\/(o.asks P a w/\LetsOut Q)else K (a.put o.dst undef) w:=by
 obtain⟨ls,b,h1,_,h3⟩:=h;obtain⟨G,hG⟩:=id hS;have hw:=yP hG h1;rcases h3 with⟨rfl,ls2,h4,_⟩|⟨rfl,h3⟩
 ·rw[VN hw];exact .inl (h4.sound hS hk)
 ·rw[VO (by rw[hw];simp)];unfold EY at h3;cases hd:o.dst with
  | none=>
    simp only[hd]at h3;subst h3;exact hk _ _ (by simpa[Act.put,bh]using hS)
  | some d=>
    simp only[hd]at h3;obtain⟨hlt,rfl⟩:=h3;refine hk _ _ ⟨G,?_⟩;exact hG.put hlt (by simp[cL,gD])
end
inductive WK where
 |reg (d:Nat)
 |leaf (r j:Nat)
 |root (r:Nat)
def keyOf:W->WK
 | .reg d _=>.reg d
 | .leaf r j _=>.leaf r j
 | .root r _ _=>.root r
abbrev Tr :=List (List Loc×List WK)
def Cm (all:Array Oper)(o:Oper)(σ:VS)(K:VS->List Loc->Bool->Prop):Prop:=
 match o.guard with
 |none=>K σ [] true
 | some (j,want)=>match all[j]? with
   | some o'=>match o'.dst with
     | some d=>match get σ (.reg d)with
       |some (.r (.one (.v (.bool b))))=>GN b (fun _=>K (.reg d (.k true)::σ) [.reg d] (true==want)) (fun _=>K (.reg d (.k false)::σ) [.reg d] (false==want))
       |some (.r (.one (.v (.tuple _))))=>K σ [.reg d] false
       |_=>False
     |none=>False
   |none=>False
section
variable (T: Am) (O: F8) (ct: F7) (n: Nat)
def yo (all:Array Oper):List Oper->VS->Tr->(VS->Tr->Prop)->Prop
 |[],σ,acc,K=>K σ acc
 | o::rest,σ,acc,K=>Cm all o σ fun σ t b=>match b with
   | true=>(oZ T O ct n o).wpU (get σ) t fun t out=>match out with
     | .ws ws=>yo all rest (push σ ws) ((t,ws.map keyOf)::acc) K
     | .call _ _ _=>False
   | false=>match o.dst with
     |some d=>if d<n then yo all rest (.reg d (.one (.v undef))::σ) ((t,[.reg d])::acc) K else False
     |none=>yo all rest σ ((t,[])::acc) K
end
inductive F9 (P:Program)(n:Nat)(all:Array Oper):List Oper->Gm->List (List Loc×List W)->Gm->Prop where
 |nil (g:Gm):F9 P n all [] g [] g
 |cons {o:Oper} {rest:List Oper} {g g':Gm} {t:List Loc} {ws:List W} {xs:List (List Loc×List W)}:yq P n all o g t ws->F9 P n all rest (bh g ws) xs g'->F9 P n all (o::rest) g ((t,ws)::xs) g'
theorem AR {σ:VS}{d:Nat}{x:R}(h:get σ (.reg d)=some (.r x)):get (.reg d x::σ)=get σ:=by
 funext l
 simp only[get,W.app];split
 ·rename_i e;rw[e,h]
 ·rfl
theorem AS {all:Array Oper}{o:Oper}{σ:VS}{K:VS->List Loc->Bool->Prop}(h:Cm all o σ K):
 ∃ σ1 t b,get σ1=get σ/\(vI all o).Runs (get σ) t b/\K σ1 t b:=by
 unfold Cm at h;unfold vI;cases hg:o.guard with
 |none=>simp only[hg]at h;exact⟨σ,[],true,rfl,⟨rfl,rfl⟩,h⟩
 | some jw=>
   obtain⟨j,want⟩:=jw;simp only[hg]at h ⊢;cases ho:all[j]? with
   |none=>simp[ho]at h
   | some o'=>
     simp only[ho,YF]at h ⊢;cases hd:o'.dst with
     |none=>simp[hd]at h
     | some d=>
       simp only[hd]at h ⊢;cases hx:get σ (.reg d)with
       |none=>simp[hx]at h
       | some v=>
         cases v with
         |h x=>simp[hx]at h
         |m a b=>simp[hx]at h
         | r x=>cases x with
           |agg as=>simp[hx]at h
           |tup rs=>simp[hx]at h
           | one a=>cases a with
             | v y=>cases y with
               | bool b=>
                 simp only[hx]at h;cases b with
                 |true=>exact⟨_,_,_,AR hx,by simp[BU,rd,Rd.Runs,hx],h⟩
                 |false=>exact⟨_,_,_,AR hx,by simp[BU,rd,Rd.Runs,hx],h⟩
               | tuple vs=>
                 simp only[hx]at h;exact⟨σ,_,_,rfl,by simp[BU,rd,Rd.Runs,hx],h⟩
               |_=>simp[hx]at h
             |_=>simp[hx]at h
theorem oT {P:Program}{T:Am}(hT:bF P T){ct:F7}(hct:xI P ct){n:Nat}{all:Array Oper}:∀ (ops:List Oper) (σ:VS) (acc:Tr) (K:VS->Tr->Prop),yo T am ct n all ops σ acc K->
 ∃ xs σ',F9 P n all ops (get σ) xs (get σ')/\K σ' ((xs.map fun x=>(x.1,x.2.map keyOf)).reverse++acc)
 |[],σ,acc,K,h=>⟨[],σ,.nil _,h⟩
 | o::rest,σ,acc,K,h=>by
   simp only[yo]at h;obtain⟨σ1,t,b,e1,h1,h2⟩:=AS h;cases b with
   | true=>
     simp only at h2;obtain⟨ls2,out,t2,k1,k2,k3,k4⟩:=Rd.wpU_runs h2;cases out with
     |call f ds mk=>exact k2.elim
     | ws ws=>
       simp only at k2;obtain⟨xs,σ',m1,m2⟩:=oT hT hct rest _ _ _ k2;rw[AQ]at m1;rw[e1]at m1 k1;refine⟨(t2,ws)::xs,σ',.cons ⟨t,true,h1,fun l hl=>k4 l hl,.inl ⟨rfl,ls2,Jl hT hct k1,k3⟩⟩ m1,?_⟩
       simpa using m2
   | false=>
     simp only at h2;cases hd:o.dst with
     | none=>
       simp only[hd]at h2;obtain⟨xs,σ',m1,m2⟩:=oT hT hct rest _ _ _ h2;rw[e1]at m1;refine⟨(t,[])::xs,σ',.cons ⟨t,false,h1,fun l hl=>hl,.inr ⟨rfl,by simp[EY,hd]⟩⟩ m1,?_⟩
       simpa using m2
     | some d=>
       simp only[hd]at h2;split at h2
       ·rename_i hlt;obtain⟨xs,σ',m1,m2⟩:=oT hT hct rest _ _ _ h2;have e2:get (W.reg d (.one (.v undef))::σ1)=bh (get σ) [W.reg d (.one (.v undef))]:=by
         simp only[get,bh,e1]
        rw[e2]at m1;refine⟨(t,[.reg d (.one (.v undef))])::xs,σ',.cons ⟨t,false,h1,fun l hl=>hl,.inr ⟨rfl,by simp[EY,hd,hlt]⟩⟩ m1,?_⟩
        simpa[keyOf]using m2
       ·exact h2.elim
theorem F9.text {P:Program}{cx:Cx}{all:Array Oper}{Q:Exit->Act->World->Prop}:∀ {ops:List Oper} {g g':Gm} {xs:List (List Loc×List W)} {a:Act} {w:World},F9 P cx.n all ops g xs g'->eW cx g a w->
 (∀ a' w',eW cx g' a' w'->Q .normal a' w')->wpList P all Q ops a w
 |_,_,_,_,a,w,.nil g,hS,hk=>hk a w hS
 | _,_,_,_,a,w,.cons he hr,hS,hk=>by
   simp only[wpList];exact he.sound hS (fun a' w' hs=>hr.text hs hk)
end Go.V
namespace Go.V
def WK.hits:WK->Loc->Bool
 | .reg d,.reg d'=>d.beq d'
 | .leaf r j,.leaf r' j'=>r.beq r'&&j.beq j'
 | .root r,.leaf r' _=>r.beq r'
 | .root r,.meta_ r'=>r.beq r'
 |_,_=>false
def WK.clash:WK->WK->Bool
 | .reg d,.reg d'=>d.beq d'
 | .leaf r j,.leaf r' j'=>r.beq r'&&j.beq j'
 | .root r,.leaf r' _=>r.beq r'
 | .leaf r _,.root r'=>r.beq r'
 | .root r,.root r'=>r.beq r'
 |_,_=>false
theorem GU {k k':WK}{l:Loc}(h:k.hits l=true)(h':k'.hits l=true):k.clash k'=true:=by
 cases k<;>cases k'<;>cases l<;>simp_all [WK.hits,WK.clash]
theorem qW {g:Gm}{x:W}{l:Loc}(h:(keyOf x).hits l=false):x.app g l=g l:=by
 cases x<;>cases l<;>simp only[keyOf,WK.hits,W.app]at h ⊢ <;>first|rfl|(rw[VO];intro e;cases e;simp at h)|(rw[VO];intro e;subst e;simp at h)
theorem Ds {g g':Gm}{x:W}{l:Loc}(h:(keyOf x).hits l=true):x.app g l=x.app g' l:=by
 cases x<;>cases l<;>simp_all [keyOf,WK.hits,W.app]
def dW (ws:List W)(l:Loc):Bool:=ws.any fun x=>(keyOf x).hits l
theorem pp {l:Loc}:∀ {ws:List W} {g:Gm},dW ws l=false->bh g ws l=g l
 |[],_,_=>rfl
 | x::ws,g,h=>by
   simp only[dW,Vk,Vl]at h;simp only[bh];rw[pp (ws:=ws) h.2,qW h.1]
theorem yu {l:Loc}:∀ {ws:List W} {g g':Gm},g l=g' l->bh g ws l=bh g' ws l
 |[],_,_,h=>h
 | x::ws,g,g',h=>by
   simp only[bh];refine yu (ws:=ws) ?_;cases hx:(keyOf x).hits l with
   |true=>exact Ds hx
   |false=>rw[qW hx,qW hx,h]
theorem Aw {l:Loc}:∀ {ws:List W} {g g':Gm},dW ws l=true->bh g ws l=bh g' ws l
 |[],_,_,h=>by simp[dW]at h
 | x::ws,g,g',h=>by
   simp only[dW,Vk,Yc]at h;simp only[bh];cases hx:(keyOf x).hits l with
   |true=>exact yu (Ds hx)
   | false=>
     rw[hx]at h;exact Aw (h.resolve_left (by simp))
def sel (dm:Nat->List W)(p:Nat->Bool)(m:Nat):List W:=((Zj m).filter p).flatMap dm
theorem oy (dm:Nat->List W)(l:Loc):∀ (is:List Nat) (g:Gm),bh g (is.flatMap dm) l=bh g ((is.filter fun i=>dW (dm i) l).flatMap dm) l
 |[],g=>rfl
 | i::is,g=>by
   simp only[Y4,List.filter_cons,cE];cases h:dW (dm i) l with
   |true=>simp only[if_true,Y4,cE];exact oy dm l is _
   | false=>
     simp only[Ye,if_false];rw[<-oy dm l is g];exact yu (pp h)
theorem rW {dm:Nat->List W}{p q:Nat->Bool}{m:Nat}{l:Loc}{g:Gm}(h:∀ i,i<m->dW (dm i) l=true->p i=q i):bh g (sel dm p m) l=bh g (sel dm q m) l:=by
 unfold sel;rw[oy,oy dm l ((Zj m).filter q)];have e:((Zj m).filter p).filter (fun i=>dW (dm i) l)=((Zj m).filter q).filter (fun i=>dW (dm i) l):=by
  rw[Wp,Wp];refine XM ?_;intro i hi;rw[Ya]at hi;cases ht:dW (dm i) l with
  |true=>simp[h i hi ht]
  |false=>simp
 rw[e]
theorem IZ {dm:Nat->List W}{q:Nat->Bool}{m j:Nat}{l:Loc}{g g':Gm}(hj:j<m)(hq:q j=true)(ht:dW (dm j) l=true)(h:∀ i,j<i->i<m->dW (dm i) l=true->q i=false):
 bh g (sel dm q m) l=bh g' (dm j) l:=by
 have e:bh g (sel dm q m) l=bh g (sel dm (fun i=>q i&&decide (i<=j)) m) l:=by
  refine rW ?_;intro i hi hti;rcases Z7 j i with c|c
  ·rw[h i c hi hti];rfl
  ·simp[c]
 rw[e];have hs:(Zj m).filter (fun i=>q i&&decide (i<=j))=((Zj j).filter q)++[j]:=by
  have:Zj m=Zj j++[j]++(Zj (m- (j+1))).map (fun x=>(j+1)+x):=by
   have e1:Zj (j+1+(m- (j+1)))=Zj (j+1)++(Zj (m- (j+1))).map (fun x=>(j+1)+x):=X9;rw[show j+1+(m- (j+1))=m from by omega]at e1;rw[e1,Vm]
  rw[this,Wq,Wq];have e2:(List.map (fun x=>j+1+x) (Zj (m- (j+1)))).filter (fun i=>q i&&decide (i<=j))=[]:=by
   rw[XN];intro a ha;obtain⟨x,_,rfl⟩:=ZR.1 ha;simp;intro _;omega
  have e3:(Zj j).filter (fun i=>q i&&decide (i<=j))=(Zj j).filter q:=by
   refine XM ?_;intro i hi;rw[Ya]at hi;simp[Nat.le_of_lt hi]
  rw[e2,e3];simp[hq]
 unfold sel;rw[hs,Wr,cE];simp only[Y4,List.flatMap_nil,Z2];exact Aw ht
def oJ (o:Oper):List Nat:=o.after.toList.filterMap fun e=>if Vn .any e then some e.on else none
def vP (ms:List Nat):List Nat->Nat
 |[]=>0
 |p::ps=>(1<<<p)|||(ms.getD p 0|||vP ms ps)
def A2:List (List Nat)->List Nat->List Nat
 |[],acc=>acc
 |ds::rest,acc=>A2 rest (acc++[vP acc ds])
def oI (x y:List Loc×List WK):Bool:=
 x.2.any fun k=>y.1.any (fun l=>k.hits l)||y.2.any (fun k'=>k.clash k')
def nS (x y:List Loc×List WK):Bool:=y.2.any fun k=>x.1.any fun l=>k.hits l
def Ev (mask:Nat)(y:List Loc×List WK):Nat->Tr->Bool
 |_,[]=>true
 |i,x::xs=>(mask.testBit i|| !(oI x y||nS x y))&&Ev mask y (i+1) xs
def vY:List Nat->Tr->Tr->Bool
 |m::ms,xs,y::ys=>Ev m y 0 xs&&vY ms (xs++[y]) ys
 |[],_,[]=>true
 |_,_,_=>false
def ze:Nat->List (List Nat)->Bool
 |_,[]=>true
 |i,ds::rest=>ds.all (fun p=>p.blt i)&&ze (i+1) rest
def aw (ops:Array Oper)(tr:Tr):Bool:=
 let ps:=ops.toList.map oJ
 ze 0 ps&&vY (A2 ps []) [] tr
end Go.V
namespace Go.V
theorem F9.at {P:Program}{n:Nat}{all:Array Oper}:∀ {ops:List Oper} {g g':Gm} {xs:List (List Loc×List W)},F9 P n all ops g xs g'->
 xs.length=ops.length/\g'=bh g (xs.flatMap (·.2))/\∀ j o,ops[j]?=some o->∃ t ws,xs[j]?=some (t,ws)/\yq P n all o (bh g ((xs.take j).flatMap (·.2))) t ws
 |_,_,_,_,.nil g=>⟨rfl,rfl,fun j o h=>by simp at h⟩
 | _,_,_,_,.cons (t:=t) (ws:=ws) he hr=>by
   obtain⟨h1,h2,h3⟩:=F9.at hr;refine⟨by simp[h1],by rw[h2];simp[cE],?_⟩;intro j o h;cases j with
   |zero=>simp at h;subst h;exact⟨t,ws,rfl,by simpa[bh]using he⟩
   | succ j=>
     simp at h;obtain⟨t',ws',e1,e2⟩:=h3 j o h;exact⟨t',ws',by simpa using e1,by simpa[cE]using e2⟩
theorem sf (xs:List (List Loc×List W)):∀ j,j<=xs.length->(xs.take j).flatMap (·.2)=(Zj j).flatMap fun i=>(xs.getD i ([],[])).2
 |0,_=>rfl
 | j+1,h=>by
   rw[List.take_succ,Vm,Wr,Wr,sf xs j (by omega)]
   congr 1
   rw[Zs (by omega)];simp[Zs (show j<xs.length by omega)]
theorem tQ {m j:Nat}(h:j<=m):(Zj m).filter (fun i=>decide (i<j))=Zj j:=by
 have e1:Zj (j+(m-j))=Zj j++(Zj (m-j)).map (fun x=>j+x):=X9;rw[show j+(m-j)=m from by omega]at e1;rw[e1,Wq];have e2:((Zj (m-j)).map (fun x=>j+x)).filter (fun i=>decide (i<j))=[]:=by
  rw[XN];intro a ha;obtain⟨x,_,rfl⟩:=ZR.1 ha;simp
 rw[e2,Z2];exact Vo.2 (fun a ha=>by simpa using ha)
theorem vQ {S:Nat->Prop}{pr:Nat->List Nat}(hcl:∀ k,S k->∀ p∈pr k,S p):∀ (rest:List (List Nat)) (acc:List Nat),
 (∀ k ds,rest[k]?=some ds->pr (acc.length+k)=ds)->
 (∀ j,j<acc.length->∀ i,(acc.getD j 0).testBit i=true->(∀ p∈pr j,S p)->S i)->
 ∀ j,j<(A2 rest acc).length->∀ i,((A2 rest acc).getD j 0).testBit i=true->(∀ p∈pr j,S p)->S i
 |[],acc,_,h=>h
 | ds::rest,acc,hp,h=>by
   simp only[A2];refine vQ hcl rest _ ?_ ?_
   ·intro k ds' hk;have:=hp (k+1) ds' (by simpa using hk);simp only[Ze,Zr,Zt];rw[<-this];congr 1;omega
   ·intro j hj i hi hS;simp only[Ze,Zr,Zt]at hj;rcases Z7 j acc.length with c|c
    ·refine h j c i ?_ hS;rw[Zo,ZO c]at hi;rw[Zo];exact hi
    ·have hj':j=acc.length:=by omega
     subst hj';have e0:=hp 0 ds rfl;rw[Yl]at e0;rw[Zo,List.getElem?_append_right (Zf _)]at hi;simp only[Nat.sub_self,List.getElem?_cons_zero,Z5]at hi;rw[e0]at hS;have key:∀ (ps:List Nat),(∀ p∈ps,S p)->(vP acc ps).testBit i=true->S i:=by
      intro ps
      induction ps with
      |nil=>intro _ hb;simp[vP]at hb
      | cons p ps ih=>
        intro hps hb;simp only[vP,Nat.testBit_or,Yc]at hb;rcases hb with hb|hb|hb
        ·rw[Nat.one_shiftLeft,Nat.testBit_two_pow]at hb;simp at hb;subst hb;exact hps _ (by simp)
        ·rcases Z7 p acc.length with c2|c2;exact h p c2 i hb (hcl p (hps p (by simp)))
         ·rw[Zo,Z6 c2]at hb;simp at hb
        ·exact ih (fun q hq=>hps q (by simp[hq])) hb
     exact key ds hS hi
theorem vX {mask:Nat}{y:List Loc×List WK}:∀ {xs:Tr} {i0:Nat},Ev mask y i0 xs=true->∀ i x,xs[i]?=some x->mask.testBit (i0+i)=true\/(oI x y=false/\nS x y=false)
 |[],_,_,i,x,hx=>by simp at hx
 | x0::xs,i0,h,i,x,hx=>by
   simp only[Ev,Zc,Yc,YM,Vl]at h;cases i with
   |zero=>simp at hx;subst hx;exact h.1
   | succ i=>
     simp at hx;have:=vX h.2 i x hx;rw[show i0+1+i=i0+(i+1)from by omega]at this;exact this
theorem sX:∀ {ms:List Nat} {xs ys:Tr},vY ms xs ys=true->∀ j y,ys[j]?=some y->∃ m,ms[j]?=some m/\∀ i x,(xs++ys)[i]?=some x->i<xs.length+j->m.testBit i=true\/(oI x y=false/\nS x y=false)
 |[],_,[],_,j,y,hy=>by simp at hy
 |_::_,_,[],_,j,y,hy=>by simp at hy
 |[],_,_::_,h,_,_,_=>by simp[vY]at h
 | m::ms,xs,y0::ys,h,j,y,hy=>by
   simp only[vY,Zc]at h;cases j with
   | zero=>
     simp at hy;subst hy;refine⟨m,rfl,?_⟩;intro i x hx hi;rw[ZO (by omega)]at hx;have:=vX h.1 i x hx
     rwa [ZP]at this
   | succ j=>
     simp at hy;obtain⟨m',e1,e2⟩:=sX h.2 j y hy;refine⟨m',by simpa using e1,?_⟩;intro i x hx hi;refine e2 i x (by simpa using hx) (by simp;omega)
theorem sW:∀ {pss:List (List Nat)} {i0:Nat},ze i0 pss=true->∀ i ps,pss[i]?=some ps->∀ p∈ps,p<i0+i
 |[],_,_,i,ps,h=>by simp at h
 | q::pss,i0,h,i,ps,hi=>by
   simp only[ze,Zc,Yi]at h;cases i with
   | zero=>
     simp at hi;subst hi;intro p hp;have:=h.1 p hp;have h2:p+1<=i0:=by simpa[Ws]using this
     omega
   | succ i=>
     simp at hi;intro p hp;have:=sW h.2 i ps hi p hp;omega
end Go.V
namespace Go.V
def oE (listed:Array Bool)(i:Nat):Bool:=listed.getD i false
theorem qt {listed:Array Bool}{i k:Nat}(hi:i<listed.size):oE (listed.setIfInBounds i true) k=(oE listed k||decide (k=i)):=by
 unfold oE;by_cases e:k=i
 ·subst e;simp[hi]
 ·rw[getD_set_ne false (Ne.symm e)];simp[e]
def nT (ops:Array Oper)(k:Nat):List Nat:=match ops[k]? with
 |some o=>oJ o
 |none=>[]
theorem sS {o:Oper}{p:Nat}:p∈oJ o↔∃ e∈o.after,Vn .any e=true/\e.on=p:=by
 unfold oJ;simp only[List.mem_filterMap,Array.mem_toList_iff]
 constructor
 ·rintro⟨e,he,h⟩;split at h
  ·rename_i hb;cases h;exact⟨e,he,hb,rfl⟩
  ·cases h
 ·rintro⟨e,he,hb,rfl⟩;exact⟨e,he,by simp[hb]⟩
theorem od {ws:List W}{l:Loc}:dW ws l=true↔∃ k∈ws.map keyOf,k.hits l=true:=by
 unfold dW;simp only[XO,ZR]
 constructor
 ·rintro⟨x,h1,h2⟩;exact⟨_,⟨x,h1,rfl⟩,h2⟩
 ·rintro⟨k,⟨x,h1,rfl⟩,h2⟩;exact⟨x,h1,h2⟩
section
variable {P: Program} {cx: Cx} {ops: Array Oper} {Q: Exit -> Act -> World -> Prop} {g0 gm: Gm} {xs: List (List Loc × List W)}
theorem CQ {tr:Tr}(hok:aw ops tr=true){j p:Nat}(hp:p∈nT ops j):p<j:=by
 simp only[aw,Zc]at hok;unfold nT at hp;cases ho:ops[j]? with
 |none=>simp[ho]at hp
 | some o=>
   simp only[ho]at hp;have:=sW hok.1 j (oJ o) (by simp[ho]) p hp;omega
theorem vZ {tr:Tr}(hok:aw ops tr=true){S:Nat->Prop}(hcl:∀ k,S k->∀ p∈nT ops k,S p){i j:Nat}{x y:List Loc×List WK}(hij:i<j)(hx:tr[i]?=some x)(hy:tr[j]?=some y) 
 (hS:∀ p∈nT ops j,S p) (hbad:oI x y=true\/nS x y=true):S i:=by
 simp only[aw,Zc]at hok;obtain⟨m,e1,e2⟩:=sX hok.2 j y hy;have e3:=e2 i x (by simpa using hx) (by simpa using hij);rcases e3 with e3|⟨e3,e4⟩
 ·refine vQ (S:=S) (pr:=nT ops) hcl (ops.toList.map oJ) [] ?_ ?_ j (ZB.1 e1).1 i ?_ hS
  ·intro k ds hk;simp only[ZA,Zy]at hk;obtain⟨o,ho,rfl⟩:=hk;rw[ZW]at ho;simp[nT,ho]
  ·intro j hj;simp at hj
  ·rw[Zo,e1];exact e3
 ·rcases hbad with h|h
  ·rw[e3]at h;cases h
  ·rw[e4]at h;cases h
theorem Ch (hrun:F9 P cx.n ops ops.toList g0 xs gm)(hok:aw ops (xs.map fun x=>(x.1,x.2.map keyOf))=true)(hQ:∀ a' w',eW cx gm a' w'->Q .normal a' w'):
 ∀ (fuel:Nat) (listed:Array Bool) (a:Act) (w:World),listed.size=ops.size->((Zj ops.size).filter fun i=> !oE listed i).length<=fuel->
  (∀ k,oE listed k=true->∀ p∈nT ops k,oE listed p=true)->
  eW cx (bh g0 (sel (fun i=>(xs.getD i ([],[])).2) (oE listed) ops.size)) a w->wpAny P .any ops Q fuel listed a w:=by
 obtain⟨hlen,hgm,hat⟩:=F9.at hrun;have hlen':xs.length=ops.size:=by simpa using hlen
 let dm:Nat->List W:=fun i=>(xs.getD i ([],[])).2
 have hall:gm=bh g0 (sel dm (fun _=>true) ops.size):=by
  have:=sf xs xs.length (Zf _);rw[List.take_length]at this;rw[hgm,this,hlen'];unfold sel;rw[Vo.2 (fun _ _=>rfl)]
 have hex:∀ j,j<ops.size->∃ o t,ops[j]?=some o/\xs[j]?=some (t,dm j)/\yq P cx.n ops o (bh g0 (sel dm (fun i=>decide (i<j)) ops.size)) t (dm j):=by
  intro j hj;have ho:ops.toList[j]?=some ops[j]:=by simp[hj]
  obtain⟨t,ws,e1,e2⟩:=hat j _ ho;have hw:dm j=ws:=by simp[dm,Zo,e1]
  refine⟨ops[j],t,by simp[hj],by rw[hw];exact e1,?_⟩;rw[hw];have e3:=sf xs j (by omega);unfold sel;rw[tQ (by omega)];rw[e3]at e2;exact e2
 have full:∀ (listed:Array Bool) (a:Act) (w:World),(∀ j,j<ops.size->oE listed j=true)->eW cx (bh g0 (sel dm (oE listed) ops.size)) a w->Q .normal a w:=by
  intro listed a w hl hS;refine hQ a w ?_;rw[hall];have:sel dm (oE listed) ops.size=sel dm (fun _=>true) ops.size:=by
   unfold sel
   congr 1
   exact XM (fun i hi=>hl i (Ya.1 hi))
  rw[<-this];exact hS
 have noready:∀ (listed:Array Bool),listed.size=ops.size->Vp .any ops listed=[]->∀ j,j<ops.size->oE listed j=true:=by
  intro listed hsz hr j
  induction j using Nat.strongRecOn with
  | _ j ih=>
    intro hj;cases hl:oE listed j with
    |true=>rfl
    | false=>
      exfalso;have:j∈Vp .any ops listed:=by
       rw[mem_ready];refine⟨?_,ops[j],by simp[hj],?_⟩
       ·unfold oE at hl;simp only[Yx]at hl ⊢;rw[Xx (by omega)]at hl ⊢
        simpa using hl
       ·intro e he hb;have hp:e.on∈nT ops j:=by
         simp only[nT,hj,Xx];exact sS.2 ⟨e,he,hb,rfl⟩
        have hlt:=CQ hok hp;exact ih e.on hlt (by omega)
      rw[hr]at this;cases this
 intro fuel
 induction fuel with
 | zero=>
   intro listed a w hsz hf hcl hS;have hnil:(Zj ops.size).filter (fun i=> !oE listed i)=[]:=YA (by omega);have hl:∀ j,j<ops.size->oE listed j=true:=by
    intro j hj;have:=XN.1 hnil j (Ya.2 hj)
    simpa using this
   refine⟨?_,full listed a w hl hS⟩;rw[List.eq_nil_iff_forall_not_mem];intro j hj;obtain⟨h1,o,ho,_⟩:=mem_ready.1 hj;have hjlt:=(Zz.1 ho).1;have:=hl j hjlt;unfold oE at this;simp only[Yx]at h1 this;rw[Xx (by omega)]at h1 this;simp only[Z5]at h1 this;rw[h1]at this;cases this
 | succ fuel ih=>
   intro listed a w hsz hf hcl hS;refine⟨fun hr=>full listed a w (noready listed hsz hr) hS,?_⟩;intro i hi;obtain⟨h1,o,ho,hpre⟩:=mem_ready.1 hi;have hilt:=(Zz.1 ho).1;have hni:oE listed i=false:=by
    unfold oE;simp only[Yx]at h1 ⊢;rw[Xx (by omega)]at h1 ⊢
    simpa using h1
   have hpi:∀ p∈nT ops i,oE listed p=true:=by
    intro p hp;simp only[nT,ho]at hp;obtain⟨e,he,hb,rfl⟩:=sS.1 hp;exact hpre e he hb
   obtain⟨o',t,ho',hxs,hexec⟩:=hex i hilt;rw[ho]at ho';cases ho';have htr:∀ k t',xs[k]?=some (t',dm k)->(xs.map fun x=>(x.1,x.2.map keyOf))[k]?=some (t',(dm k).map keyOf):=by
    intro k t' h;simp[h]
   have later:∀ k,i<k->k<ops.size->∀ l,dW (dm k) l=true->(dW (dm i) l=true\/l∈t)->oE listed k=false:=by
    intro k hik hk l hl hc;cases hlk:oE listed k with
    |false=>rfl
    | true=>
      exfalso;obtain⟨o2,t2,ho2,hxs2,_⟩:=hex k hk;have:=vZ hok (S:=fun k=>oE listed k=true) hcl hik (htr i t hxs) (htr k t2 hxs2) (hcl k hlk) (by
       obtain⟨q,hq1,hq2⟩:=od.1 hl;rcases hc with hc|hc
       ·obtain⟨q',hq3,hq4⟩:=od.1 hc;refine .inl ?_;simp only[oI,XO,Yc];exact⟨q',hq3,.inr ⟨q,hq1,GU hq4 hq2⟩⟩
       ·refine .inr ?_;simp only[nS,XO];exact⟨q,hq1,l,hc,hq2⟩)
      rw[hni]at this;cases this
   have hexec':yq P cx.n ops o (bh g0 (sel dm (oE listed) ops.size)) t (dm i):=by
    refine hexec.congr ?_;intro l hl;refine rW ?_;intro k hk htk;rcases Nat.lt_trichotomy k i with c|c|c
    ·simp only[c,decide_true];obtain⟨o2,t2,ho2,hxs2,_⟩:=hex k hk;refine vZ hok (S:=fun k=>oE listed k=true) hcl c (htr k t2 hxs2) (htr i t hxs) hpi (.inl ?_);obtain⟨q,hq1,hq2⟩:=od.1 htk;simp only[oI,XO,Yc];exact⟨q,hq1,.inl ⟨l,hl,hq2⟩⟩
    ·subst c;simp[hni]
    ·rw[later k c hk l htk (.inr hl)];simp;omega
   show wpOp P ops Q i _ a w;unfold wpOp;simp only[ho];refine hexec'.sound hS ?_;intro a' w' hs';refine ih _ a' w' (by simp[hsz]) ?_ ?_ ?_
   ·have e:(Zj ops.size).filter (fun k=> !oE (listed.setIfInBounds i true) k)=((Zj ops.size).filter (fun k=> !oE listed k)).filter (fun k=>decide (k≠i)):=by
     rw[Wp];refine XM ?_;intro k _;rw[qt (by omega)];by_cases hki:k=i<;>simp[hki]
    have hlt:(((Zj ops.size).filter (fun k=> !oE listed k)).filter (fun k=>decide (k≠i))).length<((Zj ops.size).filter (fun k=> !oE listed k)).length:=by
     rw[List.length_filter_lt_length_iff_exists];exact⟨i,List.mem_filter.2 ⟨Ya.2 hilt,by simp[hni]⟩,by simp⟩
    rw[e];omega
   ·intro k hk p hp;rw[qt (by omega)]at hk ⊢;rw[Yc]at hk;rcases hk with hk|hk
    ·rw[hcl k hk p hp];rfl
    ·simp at hk;subst hk;rw[hpi p hp];rfl
   ·have e:bh (bh g0 (sel dm (oE listed) ops.size)) (dm i)=bh g0 (sel dm (oE (listed.setIfInBounds i true)) ops.size):=by
     funext l
     cases ht:dW (dm i) l with
     | true=>
       symm
       refine IZ hilt ?_ ht ?_
       ·rw[qt (by omega)];simp
       ·intro k hik hk htk;rw[qt (by omega),later k hik hk l htk (.inl ht)];simp;omega
     | false=>
       rw[pp ht];refine rW ?_;intro k hk htk;rw[qt (by omega)];have:k≠i:=fun e=>by rw[e,ht]at htk;cases htk
       simp[this]
    rw[<-e];exact hs'
theorem Be {id:Nat}{a:Act}{w:World}(hm:P.follows .mixedOrders=true)(hrun:F9 P cx.n ops ops.toList g0 xs gm)(hok:aw ops (xs.map fun x=>(x.1,x.2.map keyOf))=true) 
 (hQ:∀ a' w',eW cx gm a' w'->Q .normal a' w') (hS:∀ a w,eW cx g0 a w->eW cx g0 a {w with drawn:=w.drawn+1}) (hs:eW cx g0 a w):(Vq id ops true).wp P Q a w:=by
 refine wp_region_any hm ?_;refine Ch hrun hok hQ ops.size _ a _ (by simp) ?_ ?_ ?_;exact Nat.le_trans (List.length_filter_le _ _) (by simp)
 ·intro k hk;exfalso;unfold oE at hk;simp only[Yx,Array.getElem?_replicate]at hk;split at hk<;>simp at hk
 ·have:sel (fun i=>(xs.getD i ([],[])).2) (oE (YQ ops.size false)) ops.size=[]:=by
   unfold sel;have:(Zj ops.size).filter (oE (YQ ops.size false))=[]:=by
    rw[XN];intro k hk;have hk:=Ya.1 hk;simp[oE,hk]
   rw[this];rfl
  rw[this];exact hS a w hs
end
end Go.V
namespace Go.V
def Iu:List W->Nat->Option R
 |[],_=>none
 | .reg d x::ws,d'=>if d.beq d' then some x else Iu ws d'
 |_::ws,d'=>Iu ws d'
def CR:List W->Nat->Nat->Option Hv
 |[],_,_=>none
 | .leaf r j x::ws,r',j'=>if r.beq r'&&j.beq j' then some x else CR ws r' j'
 |_::ws,r',j'=>CR ws r' j'
def qp (g:Gm)(ov:List W):List Nat->VS
 |[]=>[]
 | d::ds=>match Iu ov d with
   |some x=>.reg d x::qp g ov ds
   | none=>match g (.reg d)with
     |some (.r x)=>.reg d x::qp g ov ds
     |_=>qp g ov ds
def lZ (g:Gm)(ov:List W)(r:Nat):Nat->Nat->List Hv
 |_,0=>[]
 | j,m+1=>match CR ov r j with
   |some h=>h::lZ g ov r (j+1) m
   | none=>match g (.leaf r j)with
     |some (.h h)=>h::lZ g ov r (j+1) m
     |_=>⟨0,0,none,.gone⟩::lZ g ov r (j+1) m
def rK (g:Gm)(ov:List W):List Nat->VS
 |[]=>[]
 | r::rs=>match g (.meta_ r)with
   |some (.m k box)=>.root r box (lZ g ov r 0 k)::rK g ov rs
   |_=>rK g ov rs
def D1 (σ:VS)(regs roots:List Nat)(ov:List W):VS:=qp (get σ) ov regs++rK (get σ) ov roots
def lE (g whole:Gm)(r j:Nat)(p:Hv->Hv->Prop):Prop:=
 match g (.leaf r j)with
 | some (.h h')=>match whole (.leaf r j)with
   |some (.h h)=>p h' h
   |_=>False
 |_=>False
def qd (whole:Gm):List BX->Prop
 |[]=>True
 | .pt r _::cs=>(match whole (.meta_ r)with
   |some (.m _ true)=>True
   |_=>False)/\qd whole cs
 | .rp _ _::cs=>qd whole cs
def NR (g whole:Gm):A->A->Prop
 | .vw r j v' lo n,x=>match x with
   | .vw r2 j2 v lo2 n2=>(Z3 r r2&&Z3 j j2)=true/\lo=lo2/\n=n2/\lE g whole r j fun h' h=>h'.ver=v'/\h.ver=v
   |_=>False
 | .pn r j v' iv' p,x=>match x with
   | .pn r2 j2 v iv p2=>(Z3 r r2&&Z3 j j2)=true/\p=p2/\lE g whole r j fun h' h=>h'.ver=v'/\h.ver=v/\h'.iv=iv'/\h.iv=iv
   |_=>False
 | .vn r j v' iv' p lo n,x=>match x with
   | .vn r2 j2 v iv p2 lo2 n2=>(Z3 r r2&&Z3 j j2)=true/\p=p2/\lo=lo2/\n=n2/\lE g whole r j fun h' h=>h'.ver=v'/\h.ver=v/\h'.iv=iv'/\h.iv=iv
   |_=>False
 | .pt r j,x=>x=.pt r j/\match whole (.meta_ r)with
   |some (.m _ true)=>True
   |_=>False
 | .v y,x=>x=.v y
 | .nl,x=>x=.nl
 | .ro sz es,x=>x=.ro sz es
 | .rp rec j,x=>x=.rp rec j
 | .fn f caps,x=>x=.fn f caps/\qd whole caps
 | .mv r j v',x=>match x with
   | .mv r2 j2 v=>(Z3 r r2&&Z3 j j2)=true/\lE g whole r j fun h' h=>h'.ver=v'/\h.ver=v
   |_=>False
 | .st _ _ _ _ _,_=>False
 | .it es vs,x=>x=.it es vs
 | .un,x=>x=.un
def G5 (g whole:Gm):List A->List A->Prop
 |[],[]=>True
 |y::ys,x::xs=>NR g whole y x/\G5 g whole ys xs
 |_,_=>False
mutual
def rG (g whole:Gm):R->R->Prop
 | .one y,x=>match x with
   | .one x=>NR g whole y x
   |_=>False
 | .agg ys,x=>match x with
   | .agg xs=>G5 g whole ys xs
   |_=>False
 | .tup rs,x=>match x with
   | .tup qs=>xQ g whole rs qs
   |_=>False
def xQ (g whole:Gm):List R->List R->Prop
 | [],xs=>match xs with
   |[]=>True
   |_=>False
 | r::rs,xs=>match xs with
   |q::qs=>rG g whole r q/\xQ g whole rs qs
   |_=>False
end
def jy (g:Gm)(r:Nat):Nat->List Hv->Prop
 |_,[]=>True
 | j,h::hs=>(match g (.leaf r j)with
   | some (.h h')=>h'.c=h.c/\match h.org with
     |none=>True
     |some i=>h'.org=some i
   |_=>False)/\jy g r (j+1) hs
def jt (g whole:Gm):VS->Prop
 |[]=>True
 | .reg d x::τ=>(match g (.reg d)with
   |some (.r y)=>rG g whole y x
   |_=>False)/\jt g whole τ
 | .root r box hs::τ=>(match g (.meta_ r)with
   |some (.m k b)=>k=hs.length/\b=box
   |_=>False)/\jy g r 0 hs/\jt g whole τ
 | .leaf _ _ _::_=>False
def HI (g:Gm):List Nat->Prop
 |[]=>True
 | r::rs=>(match g (.meta_ r)with
   |some (.m _ true)=>True
   |_=>False)/\HI g rs
def LeO (an:List Nat)(σ τ:VS):Prop:=jt (get σ) (get τ) τ/\HI (get τ) an
theorem xZ {g:Gm}:∀ {an:List Nat},HI g an->∀ r∈an,∃ k,g (.meta_ r)=some (.m k true)
 |[],_,r,h=>by cases h
 | a::an,h,r,hr=>by
   rcases Zk.1 hr with rfl|hr
   ·obtain⟨h,_⟩:=h;split at h
    ·rename_i k e;exact⟨k,e⟩
    ·exact h.elim
   ·exact xZ h.2 r hr
section
variable {P: Program} {cx: Cx}
theorem jt.regs {g whole:Gm}:∀ {τ:VS},jt g whole τ->∀ d x,get τ (.reg d)=some x->∃ r y,x=.r r/\g (.reg d)=some (.r y)/\rG g whole y r
 |[],_,d,x,h=>by simp[get]at h
 | .reg d' y::τ,hs,d,x,h=>by
   obtain⟨h1,h3⟩:=hs;simp only[get,W.app]at h;split at h
   ·rename_i e;cases e;cases h;split at h1
    ·rename_i y' e';exact⟨_,_,rfl,e',h1⟩
    ·exact h1.elim
   ·exact jt.regs h3 d x h
 | .root r box hs::τ,hsub,d,x,h=>by
   simp only[get,W.app]at h;exact jt.regs hsub.2.2 d x h
 | .leaf _ _ _::_,hs,_,_,_=>hs.elim
theorem jt.metas {g whole:Gm}:∀ {τ:VS},jt g whole τ->∀ r x,get τ (.meta_ r)=some x->(∃ k box,x=.m k box)/\g (.meta_ r)=some x
 |[],_,r,x,h=>by simp[get]at h
 | .reg d' y::τ,hs,r,x,h=>by
   simp only[get,W.app]at h;rw[VO (by simp)]at h;exact jt.metas hs.2 r x h
 | .root r' box hs::τ,hsub,r,x,h=>by
   obtain⟨h1,h2,h3⟩:=hsub;simp only[get,W.app]at h;split at h
   ·rename_i e;subst e;cases h;split at h1
    ·rename_i k b e';obtain⟨rfl,rfl⟩:=h1;exact⟨⟨_,_,rfl⟩,e'⟩
    ·exact h1.elim
   ·exact jt.metas h3 r x h
 | .leaf _ _ _::_,hs,_,_,_=>hs.elim
theorem jy.at {g:Gm}{r:Nat}:∀ {hs:List Hv} {j i:Nat} {x:Hv},jy g r j hs->hs[i]?=some x->∃ h',g (.leaf r (j+i))=some (.h h')/\h'.c=x.c/\(∀ o,x.org=some o->h'.org=some o)
 |[],_,_,_,_,h=>by simp at h
 | y::hs,j,i,x,hle,h=>by
   obtain⟨h1,h2⟩:=hle;cases i with
   | zero=>
     simp at h;subst h;split at h1
     ·rename_i h' e;refine⟨h',e,h1.1,fun o ho=>?_⟩;have:=h1.2;rw[ho]at this;exact this
     ·exact h1.elim
   | succ i=>
     simp at h;obtain⟨h',e,e2⟩:=jy.at h2 h;exact⟨h',by rw[<-e];congr 2;omega,e2⟩
theorem jt.leaves {g whole:Gm}:∀ {τ:VS},jt g whole τ->∀ r j x,get τ (.leaf r j)=some x->∃ h h' k box,x=.h h/\g (.leaf r j)=some (.h h')/\(h'.c=h.c/\∀ o,h.org=some o->h'.org=some o)/\get τ (.meta_ r)=some (.m k box)/\j<k
 |[],_,r,j,x,h=>by simp[get]at h
 | .reg d' y::τ,hs,r,j,x,h=>by
   simp only[get,W.app]at h ⊢;rw[VO (by simp)]at h;rw[VO (by simp)];exact jt.leaves hs.2 r j x h
 | .root r' box hs::τ,hsub,r,j,x,h=>by
   simp only[get,W.app]at h ⊢;split at h
   ·rename_i e;subst e;rw[VN rfl];simp only[Zy]at h;obtain⟨y,e1,rfl⟩:=h;obtain⟨h',e2,e3⟩:=jy.at hsub.2.1 e1;rw[ZP]at e2;exact⟨y,h',_,_,rfl,e2,e3,rfl,(ZB.1 e1).1⟩
   ·rename_i e;rw[VO e];exact jt.leaves hsub.2.2 r j x h
 | .leaf _ _ _::_,hs,_,_,_,_=>hs.elim
theorem LeO.sim {an:List Nat}(ha:∀ r x,cx.aloc r=some x->r∈an){σ τ:VS}(h:LeO an σ τ){a:Act}{w:World}(hS:eW cx (get σ) a w):eW cx (get τ) a w:=by
 obtain⟨G,hS⟩:=hS;obtain⟨h,hk⟩:=h
 open Classical in
 let G':Gh:={G with loc:=fun r=>if∃ k,get τ (.meta_ r)=some (.m k true)then G.loc r else none}
 have pair:∀ r j (p:Hv->Hv->Prop),lE (get σ) (get τ) r j p->∀ h0,gl (get σ) r j=some h0->∃ h1,gl (get τ) r j=some h1/\p h0 h1/\h1.c=h0.c:=by
  intro r j p hs h0 e;rw[au]at e;unfold lE at hs;rw[e]at hs;simp only at hs;split at hs
  ·rename_i h1 e1;obtain⟨y,h',_,_,q1,q2,q3,_⟩:=jt.leaves h r j _ e1;cases q1;rw[e]at q2;cases q2;exact⟨h1,au.2 e1,hs,q3.1.symm⟩
  ·exact hs.elim
 have beq:∀ {r r2 j j2:Nat},(Z3 r r2&&Z3 j j2)=true->r=r2/\j=j2:=by
  intro r r2 j j2 e;simp only[Zc]at e;exact⟨Yt e.1,Yt e.2⟩
 have hA:∀ y x v,NR (get σ) (get τ) y x->gD (gl (get σ)) G w y v->gD (gl (get τ)) G' w x v:=by
  intro y x v hc hx;cases y with
  | pt r j=>
    obtain⟨rfl,hc⟩:=hc;obtain⟨b,off,e1,e2⟩:=hx;refine⟨b,off,?_,e2⟩;split at hc
    ·rename_i k e;simp only[G'];rw[VN ⟨k,e⟩];exact e1
    ·exact hc.elim
  |st _ _ _ _ _=>exact hc.elim
  | mv r j v'=>
    cases x with
    | mv r2 j2 ver=>
      obtain⟨e,hp⟩:=hc;obtain⟨rfl,rfl⟩:=beq e;obtain⟨h0,e1,e2,e3⟩:=hx;obtain⟨h1,f1,⟨f2,f3⟩,f4⟩:=pair r j _ hp h0 e1;exact⟨h1,f1,by omega,fun _ kb es qc=>e3 f2 kb es (by rw[<-f4];exact qc)⟩
    |_=>exact hc.elim
  | vw r j v' lo n=>
    cases x with
    | vw r2 j2 ver lo2 n2=>
      obtain⟨e,rfl,rfl,hp⟩:=hc;obtain⟨rfl,rfl⟩:=beq e;obtain⟨h0,e1,e2,e3⟩:=hx;obtain⟨h1,f1,⟨f2,f3⟩,f4⟩:=pair r j _ hp h0 e1;exact⟨h1,f1,by omega,fun _ sz es qc=>e3 f2 sz es (by rw[<-f4];exact qc)⟩
    |_=>exact hc.elim
  | pn r j v' iv' p=>
    cases x with
    | pn r2 j2 ver iv p2=>
      obtain⟨e,rfl,hp⟩:=hc;obtain⟨rfl,rfl⟩:=beq e;obtain⟨h0,e1,e2,e3,e4,e5⟩:=hx;obtain⟨h1,f1,⟨f2,f3,f5,f6⟩,f4⟩:=pair r j _ hp h0 e1;exact⟨h1,f1,by omega,by omega,e4,fun _ l qc=>e5 (by simp[vG,f2,f5]) l (by rw[<-f4];exact qc)⟩
    |_=>exact hc.elim
  | vn r j v' iv' p lo n=>
    cases x with
    | vn r2 j2 ver iv p2 lo2 n2=>
      obtain⟨e,rfl,rfl,rfl,hp⟩:=hc;obtain⟨rfl,rfl⟩:=beq e;obtain⟨h0,e1,e2,e3,e4,e5⟩:=hx;obtain⟨h1,f1,⟨f2,f3,f5,f6⟩,f4⟩:=pair r j _ hp h0 e1;exact⟨h1,f1,by omega,by omega,e4,fun _ l rec o sz es qc=>e5 (by simp[gY,f2,f5]) l rec o sz es (by rw[<-f4];exact qc)⟩
    |_=>exact hc.elim
  |v y=>have hc:x=_:=hc;subst hc;exact hx
  |nl=>have hc:x=_:=hc;subst hc;exact hx
  |ro sz es=>have hc:x=_:=hc;subst hc;exact hx
  |rp rec j=>have hc:x=_:=hc;subst hc;exact hx
  |un=>have hc:x=_:=hc;subst hc;trivial
  |it es vs=>have hc:x=_:=hc;subst hc;exact hx
  | fn f caps=>
    obtain⟨rfl,hc⟩:=hc;obtain⟨ps,e,hx⟩:=hx;refine⟨ps,e,?_⟩;have key:∀ (caps:List BX) (ps:List Value),qd (get τ) caps->dY G w caps ps->dY G' w caps ps:=by
     intro caps
     induction caps with
     |nil=>intro ps _ h;exact h
     | cons c cs ih=>
       intro ps hk hx;obtain⟨v,vs',e,h1,h2⟩:=hx;cases c with
       | pt r j=>
         obtain⟨k1,k2⟩:=hk;refine⟨v,vs',e,?_,ih _ k2 h2⟩;obtain⟨b,off,e1,e2⟩:=h1;refine⟨b,off,?_,e2⟩;split at k1
         ·rename_i k e;simp only[G'];rw[VN ⟨k,e⟩];exact e1
         ·exact k1.elim
       |rp rec j=>exact⟨v,vs',e,h1,ih _ hk h2⟩
    exact key caps ps hc hx
 have hAs:∀ ys xs vs,G5 (get σ) (get τ) ys xs->bS (gl (get σ)) G w ys vs->bS (gl (get τ)) G' w xs vs:=by
  intro ys
  induction ys with
  | nil=>intro xs vs hc hx;cases xs with
    |nil=>exact hx
    |cons _ _=>exact hc.elim
  | cons y ys ih=>
    intro xs vs hc hx;cases xs with
    |nil=>exact hc.elim
    | cons x xs=>
      obtain⟨v,vs',e,h1,h2⟩:=hx;exact⟨v,vs',e,hA y x v hc.1 h1,ih xs vs' hc.2 h2⟩
 have hR:∀ y x v,rG (get σ) (get τ) y x->cL (gl (get σ)) G w y v->cL (gl (get τ)) G' w x v:=by
  intro y
  induction y using R.rec (motive_2:=fun ys=>∀ xs vs,xQ (get σ) (get τ) ys xs->im (gl (get σ)) G w ys vs->im (gl (get τ)) G' w xs vs)with
  | one y=>
    intro x v hc hx;cases x with
    |one x=>simp only[cL,rG]at*;exact hA y x v hc hx
    |agg _=>simp[rG]at hc
    |tup _=>simp[rG]at hc
  | agg ys=>
    intro x v hc hx;cases x with
    |agg xs=>simp only[cL,rG]at*;obtain⟨vs,e,hx⟩:=hx;exact⟨vs,e,hAs ys xs vs hc hx⟩
    |one _=>simp[rG]at hc
    |tup _=>simp[rG]at hc
  | tup ys ih=>
    intro x v hc hx;cases x with
    |tup xs=>simp only[cL,rG]at*;obtain⟨vs,e,hx⟩:=hx;exact⟨vs,e,ih xs vs hc hx⟩
    |one _=>simp[rG]at hc
    |agg _=>simp[rG]at hc
  | nil=>
    rename_i xs vs hc hx;cases xs with
    |nil=>exact hx
    |cons _ _=>simp[xQ]at hc
  | cons r rs ih1 ih2=>
    rename_i xs vs hc hx;cases xs with
    |nil=>simp[xQ]at hc
    | cons q qs=>
      simp only[im,xQ]at*;obtain⟨v,vs',e,h1,h2⟩:=hx;exact⟨v,vs',e,ih1 q v hc.1 h1,ih2 qs vs' hc.2 h2⟩
 refine⟨G',hS.defers,hS.tm,?_,?_,?_,?_,?_,hS.lt,hS.frame,hS.frow,?_,?_,hS.afr,?_,?_,hS.roX⟩
 ·intro d x hx;obtain⟨r,y,rfl,he,hc⟩:=jt.regs h d x hx;obtain⟨e1,r',e2,e3⟩:=hS.reg d _ he;cases e2;exact⟨e1,r,rfl,hR y r _ hc e3⟩
 ·intro r k hk;obtain⟨b,off,cur,ty,f1,f2⟩:=hS.boxes r k (jt.metas h r _ hk).2;exact⟨b,off,cur,ty,by simp only[G'];rw[VN ⟨k,hk⟩];exact f1,f2⟩
 ·intro r j x hx;obtain⟨y,h',k,box,rfl,q2,q3,q4,q5⟩:=jt.leaves h r j x hx;obtain⟨h0,k0,box0,e1,e2,e3,e4⟩:=hS.leaf r j _ q2;cases e1;refine⟨y,k,box,rfl,q4,q5,?_⟩;unfold eh at e4 ⊢;rw[q3.1]at e4;exact e4
 ·intro r x hx;exact(jt.metas h r x hx).1
 ·intro r b hb;simp only[G']at hb;split at hb
  ·rename_i e;exact e
  ·cases hb
 ·intro r j h0 e i hi hl;obtain⟨y,h',k,box,e1,q2,q3,q4,q5⟩:=jt.leaves h r j _ (au.1 e);cases e1;exact hS.anc r j h' (au.2 q2) i (q3.2 i hi) (by rw[q3.1];exact hl)
 ·intro r x hx;have:=xZ hk r (ha r x hx);simp only[G'];obtain⟨k,hk2⟩:=this;rw[VN ⟨k,hk2⟩];obtain⟨g1,g2⟩:=hS.aloc r x hx;have:=(jt.metas h r _ hk2).2;rw[this]at g2;cases g2;exact⟨g1,hk2⟩
 ·intro r1 r2 k1 k2 b o1 o2 hne h1 h2 q1 q2;simp only[G']at q1 q2;rw[VN ⟨k1,h1⟩]at q1;rw[VN ⟨k2,h2⟩]at q2;exact hS.sep r1 r2 k1 k2 b o1 o2 hne (jt.metas h r1 _ h1).2 (jt.metas h r2 _ h2).2 q1 q2
 ·intro r b off hx ha2;simp only[G']at hx;split at hx
  ·exact hS.newb r b off hx ha2
  ·cases hx
theorem eW.drawn {g:Gm}{a:Act}{w:World}(h:eW cx g a w)(k:Nat):eW cx g a {w with drawn:=k}:=by
 obtain⟨G,hS⟩:=h
 let w':World:={w with drawn:=k}
 have st:Step g G w g G w':=⟨fun r j h hh=>⟨h,hh,.inl ⟨rfl,rfl,fun _ _ _ _=>rfl⟩⟩,fun b hb=>⟨hb,rfl⟩,fun b hb=>⟨hb,rfl⟩,fun r x h=>h⟩;refine⟨G,hS.defers,hS.tm,?_,hS.boxes,?_,hS.metas,hS.noloc,hS.lt,⟨hS.frame.os,hS.frame.tape,hS.frame.output,hS.frame.size,hS.frame.block⟩,hS.frow,hS.anc,hS.aloc,fun r b off e=>(hS.afr r b off e).keep rfl,hS.sep,hS.newb,hS.roX⟩
 ·intro d x hx;obtain⟨e1,r,e2,e3⟩:=hS.reg d x hx;exact⟨e1,r,e2,cL.step hS st _ _ e3⟩
 ·intro r j x hx;obtain⟨h,k',box,e1,e2,e3,e4⟩:=hS.leaf r j x hx;refine⟨h,k',box,e1,e2,e3,?_⟩;unfold eh at e4 ⊢;split at e4
  ·exact⟨bN.keep (w':=w') _ _ _ e4.1 (fun _ _=>rfl),e4.2⟩
  ·obtain⟨S,h1,h2⟩:=e4;exact⟨S,bN.keep (w':=w') _ _ _ h1 (fun _ _=>rfl),h2⟩
  ·trivial
end
end Go.V
namespace Go.V
section
variable (T: Am) (O: F8) (ct: F7) (n: Nat) (an: List Nat)
def CO:List Oper->Option (Nat×Nat×Nat)
 | [o1,o2]=>match o1.op with
   | .next (.tmp it) false=>match o2.op with
     | .extract (.tmp d) 0=>match o1.dst,o1.guard,o2.dst,o2.guard with
       | some d1,none,some d2,none=>match Z3 d d1 with
         |true=>some (it,d1,d2)
         |false=>none
       |_,_,_,_=>none
     |_=>none
   |_=>none
 |_=>none
def Jk (it d1 d2:Nat)(draw:Bool)(σ:VS)(K:VS->Prop):Prop:=
 match draw with
 |true=>False
 | false=>match get σ (.reg it)with
   | some (.r (.one (.it es vs)))=>(rZ it σ&&(Ws d1 n&&(Ws d2 n&&(!Nat.beq d1 it&& !Nat.beq d2 it))))=true/\
      (∀ k:Int,O.pr (fun _=>k∈ma es/\vs.length<es.length)->K (.reg d2 (.k true):: .reg d1 (.one .un):: .reg it (.one (.it es (k::vs)))::σ))/\
      (O.pr (fun _=>∀ k∈ma es,k∈vs)->K (.reg d2 (.k false):: .reg d1 (.one .un)::σ))
   |_=>False
def BM (ops:Array Oper)(draw:Bool)(Q:VS->Prop)(σ:VS):Prop:=
 yo T O ct n ops ops.toList σ [] fun σ' acc=>match draw with
  |true=>O.pr (fun _=>aw ops acc.reverse=true)/\Q σ'
  |false=>Q σ'
def ou:Code->(Ex->VS->Prop)->VS->Prop
 | .skip,Q,σ=>Q .normal σ
 | .region id ops draw,Q,σ=>match CO ops.toList with
   |some (it,d1,d2)=>Jk O n it d1 d2 draw σ (fun σ'=>Q .normal σ')
   | none=>match lk T.alL id with
     |none=>BM T O ct n ops draw (Q .normal) σ
     |some _=>BM T O ct n ops draw (Q .normal) σ\/BM T O ⟨ct.rd,ct.mu,fun _=>none,ct.nw,ct.tk⟩ n ops draw (Q .normal) σ
 | .seq x y,Q,σ=>ou x (fun e σ'=>match e with
    | .normal=>ou y Q σ'
    | .exit i=>Q (.exit i) σ'
    | .ret=>Q .ret σ') σ
 | .cond c x y,Q,σ=>(yL c .ret).wpU (get σ) [] fun _ b=>GN b (fun _=>ou x Q σ) (fun _=>ou y Q σ)
 | .block id x,Q,σ=>ou x (fun e σ'=>match e with
    | .normal=>Q .normal σ'
    | .exit i=>match Z3 i id with
      |true=>Q .normal σ'
      |false=>Q (.exit i) σ'
    | .ret=>Q .ret σ') σ
 | .loop x,Q,σ=>∃ (regs roots:List Nat) (α:Type) (ov:α->List W) (rel:α->Prop) (μ:α->Nat),(∃ s0,rel s0/\LeO an σ (D1 σ regs roots (ov s0)))/\
    ∀ s,rel s->ou x (fun e σ'=>match e with
     | .normal=>∃ s',rel s'/\μ s'<μ s/\LeO an σ' (D1 σ regs roots (ov s'))
     | .exit i=>Q (.exit i) σ'
     | .ret=>Q .ret σ') (D1 σ regs roots (ov s))
 | .exit id,Q,σ=>Q (.exit id) σ
 | .ret,Q,σ=>Q .ret σ
 | .scope x,Q,σ=>ou x Q σ
 |_,_,_=>False
def Hc {α:Type}(O:F8)(ti:TI)(k:DV->List (Nat×Nat)->Rd α)(as:List A):Rd α:=
 iW O ti.slots as fun lts srcs=>if ti.agg then k (.agg (lts.map (·.1))) srcs else match lts with
  |[(l,_)]=>k (.one l) srcs
  |_=>.fail
def IP {α:Type}(t:TypeId)(rv:ResultVar)(k:DV->List (Nat×Nat)->Rd α):Rd α:=
 match lk T.tyL t with
 |none=>.fail
 | some ti=>match rv with
   | .tmp x=>BU x fun r=>match r with
     | .one a=>if ti.agg then .fail else Hc O ti k [a]
     | .agg as=>if ti.agg then Hc O ti k as else .fail
     | .tup _=>.fail
   | .cell x t'=>if t'==t then BU x fun r=>match r with
     | .one (.pt r j)=>iU O r j ti.zero.length (Hc O ti k)
     |_=>.fail
     else .fail
def zu {α:Type}:List TypeId->List ResultVar->(List DV->List (Nat×Nat)->Rd α)->Rd α
 |[],[],k=>k [] []
 |t::ts,rv::rvs,k=>IP T O t rv fun d src=>zu ts rvs fun ds srcs=>k (d::ds) (src++srcs)
 |_,_,_=>.fail
def E4 (ts:List TypeId)(rvs:List ResultVar)(σ:VS)(res:List DV):Prop:=
 (zu T O ts rvs fun ds srcs=>if bp srcs then .req (O.pr fun _=>ds=res) (.ret ())else .fail).wpU (get σ) [] fun _ _=>True
end
section
variable {P: Program} {T: Am} {cx: Cx} {g: Gm}
theorem mP {α:Type}{r:Nat}:∀ {m j:Nat} {k' k:List A->Rd α} {ls:List Loc} {x:α},(∀ as ls,(k' as).Runs g ls x->(k as).Runs g ls x)->(eC r j m k').Runs g ls x->(eC r j m k).Runs g ls x
 |0,j,k',k,ls,x,hk,h=>hk _ _ h
 |m+1,j,k',k,ls,x,hk,h=>dU (fun v ls h=>mP (fun as ls h=>hk _ _ h) h) h
theorem FN (hT:bF P T){α:Type}{t:TypeId}{rv:ResultVar}{k' k:DV->List (Nat×Nat)->Rd α}{ls:List Loc}{x:α}(hk:∀ d s ls,(k' d s).Runs g ls x->(k d s).Runs g ls x)(h:(IP T am t rv k').Runs g ls x):(aeA P t rv k).Runs g ls x:=by
 revert h
 unfold IP aeA;rcases hT.ty t with e|⟨ti,e,e2⟩
 ·simp only[e];exact fun h=>h.elim
 ·simp only[e,e2];have hf:∀ (as:List A) (ls:List Loc),(Hc am ti k' as).Runs g ls x->(cX ti.slots as fun lts srcs=>if ti.agg then k (.agg (lts.map (·.1))) srcs else match lts with
   |[(l,_)]=>k (.one l) srcs
   |_=>.fail).Runs g ls x:=by
   intro as ls h;unfold Hc at h;rw[iX]at h;refine hY ?_ h;intro l src ls h;by_cases ha:ti.agg=true
   ·rw[VN ha]at h ⊢;exact hk _ _ _ h
   ·rw[VO ha]at h ⊢;split at h
    ·exact hk _ _ _ h
    ·exact h.elim
  intro h;cases rv with
  | tmp y=>
    refine wd ?_ h;intro r ls h;cases r with
    | one a=>
      simp only at h ⊢;split at h
      ·exact h.elim
      ·rename_i hb;rw[VO hb];exact hf _ _ h
    | agg as=>
      simp only at h ⊢;split at h
      ·rename_i hb;rw[VN hb];exact hf _ _ h
      ·exact h.elim
    |tup rs=>exact h
  | cell y t'=>
    refine cT (fun ls h=>?_) h;refine wd ?_ h;intro r ls h;cases r with
    | one a=>cases a with
      | pt r j=>
        simp only[ke]at h;exact mP (fun as ls h=>hf as ls h) h
      |_=>exact h
    |agg as=>exact h
    |tup rs=>exact h
theorem pN (hT:bF P T){α:Type}:∀ {ts:List TypeId} {rvs:List ResultVar} {k' k:List DV->List (Nat×Nat)->Rd α} {ls:List Loc} {x:α},(∀ d s ls,(k' d s).Runs g ls x->(k d s).Runs g ls x)->(zu T am ts rvs k').Runs g ls x->(wh P ts rvs k).Runs g ls x
 |[],[],k',k,ls,x,hk,h=>hk _ _ _ h
 |[],_::_,k',k,ls,x,hk,h=>h
 |_::_,[],k',k,ls,x,hk,h=>h
 |t::ts,rv::rvs,k',k,ls,x,hk,h=>FN hT (fun d s ls h=>pN hT (fun d s ls h=>hk _ _ _ h) h) h
theorem A6 {ops:List Oper}{it d1 d2:Nat}(h:CO ops=some (it,d1,d2)):∃ o1 o2,ops=[o1,o2]/\o1.op=.next (.tmp it) false/\o1.dst=some d1/\o1.guard=none/\o2.op=.extract (.tmp d1) 0/\o2.dst=some d2/\o2.guard=none:=by
 unfold CO at h;split at h
 ·rename_i o1 o2;split at h
  ·rename_i it' e1;split at h
   ·rename_i d e2;split at h
    ·rename_i e3 e4 e5 e6;split at h
     ·rename_i hb;cases h;cases Yt hb;exact⟨o1,o2,rfl,e1,e3,e4,e2,e5,e6⟩
     ·cases h
    ·cases h
   ·cases h
  ·cases h
 ·cases h
theorem oq (hT:bF P T){ct:F7}(hct:xI P ct)(hm:P.follows .mixedOrders=true){n:Nat}(hn:n=cx.n){id:Nat}{ops:Array Oper}{draw:Bool}{Q:Ex->VS->Prop}{σ:VS}{a:Act}{w:World}(h:BM T am ct n ops draw (Q .normal) σ)(hS:eW cx (get σ) a w):
 (Vq id ops draw).wp P (fun e a' w'=>∃ ex σ',e=NS ex/\Q ex σ'/\eW cx (get σ') a' w') a w:=by
 unfold BM at h;obtain⟨xs,σ',h1,h2⟩:=oT hT hct _ _ _ _ h;subst hn;cases draw with
 |false=>exact wp_region_list (h1.text hS (fun a' w' hs=>⟨.normal,σ',rfl,h2,hs⟩))
 | true=>
   obtain⟨h2,h3⟩:=h2;refine Be hm h1 ?_ (fun a' w' hs=>⟨.normal,σ',rfl,h3,hs⟩) (fun a w h=>h.drawn _) hS;have h2:aw ops _=true:=h2
   simpa using h2
theorem eE (hT:bF P T){ct:F7}(hct:xI P ct)(hm:P.follows .mixedOrders=true){n:Nat}(hn:n=cx.n){an:List Nat}(ha:∀ r x,cx.aloc r=some x->r∈an):∀ (c:Code) (Q:Ex->VS->Prop) (σ:VS) (a:Act) (w:World),ou T am ct n an c Q σ->eW cx (get σ) a w->
 c.wp P (fun e a' w'=>∃ ex σ',e=NS ex/\Q ex σ'/\eW cx (get σ') a' w') a w
 | .skip,Q,σ,a,w,h,hS=>wp_skip ⟨.normal,σ,rfl,h,hS⟩
 | .region id ops draw,Q,σ,a,w,h,hS=>by
   unfold ou at h;split at h
   ·rename_i it d1 d2 hq;unfold Jk at h;split at h
    ·exact h.elim
    split at h
    case h_2=>exact h.elim
    rename_i es vs hit;obtain⟨hb,hT',hF'⟩:=h;simp only[Zc,YM]at hb;obtain⟨b1,b2,b3,b4,b5⟩:=hb;obtain⟨o1,o2,e0,p1,p2,p3,p4,p5,p6⟩:=A6 hq;subst hn;refine wp_region_list ?_;rw[e0];refine CP hS hit b1 (by simpa[Vr]using b2) (by simpa[Vr]using b3) (Wt b4) (Wt b5) p1 p2 p3 p4 p5 p6 ?_ ?_
    ·intro k hk hl a' w' hs;exact⟨.normal,_,rfl,hT' k ⟨hk,hl⟩,hs⟩
    ·intro hall a' w' hs;exact⟨.normal,_,rfl,hF' hall,hs⟩
   split at h
   ·exact oq hT hct hm hn h hS
   ·rcases h with h|h;exact oq hT hct hm hn h hS;exact oq (ct:=⟨ct.rd,ct.mu,fun _=>none,ct.nw,ct.tk⟩) hT ⟨hct.1,hct.2.1,fun _ _ e=>(by cases e),hct.2.2.2.1,hct.2.2.2.2⟩ hm hn h hS
 | .seq x y,Q,σ,a,w,h,hS=>by
   refine wp_seq (Y8 ?_ (eE hT hct hm hn ha x _ σ a w h hS));rintro e a' w' ⟨ex,σ',rfl,hq,hs⟩;cases ex with
   |normal=>exact eE hT hct hm hn ha y Q σ' a' w' hq hs
   |exit i=>exact⟨.exit i,σ',rfl,hq,hs⟩
   |ret=>exact⟨.ret,σ',rfl,hq,hs⟩
 | .cond c x y,Q,σ,a,w,h,hS=>by
   obtain⟨G,hG⟩:=id hS;obtain⟨ls,b,t,h1,h2,_⟩:=Rd.wpU_runs h;obtain⟨b',ls',e,h3⟩:=qh hG h1;refine wp_cond e ?_;simp only[Rd.Runs]at h3;obtain⟨_,rfl⟩:=h3;cases b with
   |true=>exact eE hT hct hm hn ha x Q σ a w h2 hS
   |false=>exact eE hT hct hm hn ha y Q σ a w h2 hS
 | .block id x,Q,σ,a,w,h,hS=>by
   refine wp_block (Y8 ?_ (eE hT hct hm hn ha x _ σ a w h hS));rintro e a' w' ⟨ex,σ',rfl,hq,hs⟩;cases ex with
   |normal=>exact⟨.normal,σ',rfl,hq,hs⟩
   | exit i=>
     simp only[NS,Exit.inBlock];simp only at hq;split at hq
     ·rename_i e;rw[VN (Yt e)];exact⟨.normal,σ',rfl,hq,hs⟩
     ·rename_i e;rw[VO (Wt e)];exact⟨.exit i,σ',rfl,hq,hs⟩
   |ret=>exact⟨.ret,σ',rfl,hq,hs⟩
 | .loop x,Q,σ,a,w,h,hS=>by
   obtain⟨regs,roots,α,ov,rel,μ,⟨s0,hr0,hle0⟩,hround⟩:=h;refine wp_loop_ghost (fun s a w=>rel s/\eW cx (get (D1 σ regs roots (ov s))) a w) μ s0 ⟨hr0,hle0.sim ha hS⟩ ?_;rintro s a w ⟨hr,hs⟩;refine Y8 ?_ (eE hT hct hm hn ha x _ _ a w (hround s hr) hs);rintro e a' w' ⟨ex,σ',rfl,hq,hs'⟩;cases ex with
   | normal=>
     obtain⟨s',k1,k2,k3⟩:=hq;exact⟨s',⟨k1,k3.sim ha hs'⟩,k2⟩
   |exit i=>exact⟨.exit i,σ',rfl,hq,hs'⟩
   |ret=>exact⟨.ret,σ',rfl,hq,hs'⟩
 | .exit id,Q,σ,a,w,h,hS=>wp_exit ⟨.exit id,σ,rfl,h,hS⟩
 | .ret,Q,σ,a,w,h,hS=>wp_ret ⟨.ret,σ,rfl,h,hS⟩
 | .scope x,Q,σ,a,w,h,hS=>by
   refine wp_scope_straight (Y8 ?_ (eE hT hct hm hn ha x Q σ a w h hS));rintro e a' w' ⟨ex,σ',rfl,hq,hs⟩;cases ex with
   |normal=>exact⟨.normal,σ',rfl,hq,hs⟩
   |exit i=>exact⟨.exit i,σ',rfl,hq,hs⟩
   |ret=>exact⟨.ret,σ',rfl,hq,hs⟩
 | .rangeFunc _ _ _ _,Q,σ,a,w,h,hS=>h.elim
 | .label _,Q,σ,a,w,h,hS=>h.elim
 | .goto _,Q,σ,a,w,h,hS=>h.elim
 | .refuse _,Q,σ,a,w,h,hS=>h.elim
def RD (T:Am)(O:F8)(ts:List TypeId)(rvs:List ResultVar)(res:List DV):Ex->VS->Prop
 | .normal,σ=>E4 T O ts rvs σ res
 | .ret,σ=>E4 T O ts rvs σ res
 | .exit _,_=>False
theorem ah {α:Type}{rel:α->Prop}{μ:α->Nat}{m:Nat}{le:α->Prop}(s:α)(h3:le s)(h1:rel s)(h2:μ s<m):∃ s,rel s/\μ s<m/\le s:=⟨s,h1,h2,h3⟩
end
end Go.V
namespace Go.V
def pC:L->L->Bool
 | .v (.int k _),.v (.int k' _)=>k==k'
 | .v (.bool _),.v (.bool _)=>true
 | .v (.string _),.v (.string _)=>true
 | .s sz _,.s sz' _=>sz==sz'
 |_,_=>false
def kX:aO->aO->Bool
 |[],[]=>true
 |z::zs,x::xs=>pC z x&&kX zs xs
 |_,_=>false
def Wf (z:aO)(es:af):Prop:=∀ e∈es,kX z e=true
theorem sN:∀ {z e:aO},kX z e=true->e.length=z.length
 |[],[],_=>rfl
 |[],_::_,h=>by cases h
 |_::_,[],h=>by cases h
 | z::zs,x::xs,h=>by
   simp only[kX,Zc]at h;simp[sN h.2]
theorem xT:∀ (o:Nat) {z e:aO},kX z e=true->kX (z.drop o) (e.drop o)=true
 |0,z,e,h=>h
 |o+1,[],[],h=>by simp[kX]
 |o+1,[],_::_,h=>by cases h
 |o+1,_::_,[],h=>by cases h
 | o+1,z::zs,x::xs,h=>by
   simp only[kX,Zc]at h;exact xT o h.2
theorem xU:∀ (m:Nat) {z e:aO},kX z e=true->kX (z.take m) (e.take m)=true
 |0,z,e,h=>by simp[kX]
 |m+1,[],[],h=>by simp[kX]
 |m+1,[],_::_,h=>by cases h
 |m+1,_::_,[],h=>by cases h
 | m+1,z::zs,x::xs,h=>by
   simp only[kX,Zc]at h;simp only[List.take_succ_cons,kX,Zc];exact⟨h.1,xU m h.2⟩
theorem Wf.at {z:aO}{es:af}(h:Wf z es){n:Nat}(hn:n<es.length):kX z (es.getD n [])=true:=by
 rw[Zo,Zs hn];exact h _ (List.getElem_mem hn)
theorem Wf.nil {z:aO}:Wf z []:=fun _ h=>by cases h
theorem Wf.cons {z e:aO}{es:af}(h:kX z e=true)(hs:Wf z es):Wf z (e::es):=by
 intro x hx;rcases Zk.1 hx with rfl|hx;exact h;exact hs x hx
theorem Wf.append {z:aO}{es fs:af}(h:Wf z es)(hs:Wf z fs):Wf z (es++fs):=by
 intro x hx;rcases List.mem_append.1 hx with hx|hx;exact h x hx;exact hs x hx
theorem Wf.take {z:aO}{es:af}(h:Wf z es)(n:Nat):Wf z (es.take n):=fun x hx=>h x (List.mem_of_mem_take hx)
theorem Wf.drop {z:aO}{es:af}(h:Wf z es)(n:Nat):Wf z (es.drop n):=fun x hx=>h x (List.mem_of_mem_drop hx)
theorem vB {es:af}{i:Int}{t:aO}:∀ {z:aO} {j:Nat} {rest:aO},kX z rest=true->(es.getD i.toNat []).drop j=rest++t->ko am es i j z=rest
 |[],j,[],_,_=>rfl
 |[],_,_::_,h,_=>by cases h
 |_::_,_,[],h,_=>by cases h
 | z::zs,j,x::xs,h,e=>by
   simp only[kX,Zc]at h;have hx:(es.getD i.toNat []).getD j .g=x:=by
    have:(es.getD i.toNat [])[j]?=some x:=by
     have:=congrArg (fun l:aO=>l[0]?) e
     simpa[Zv]using this
    rw[Zo,this];rfl
   have hr:(es.getD i.toNat []).drop (j+1)=xs++t:=by
    rw[<-Z8,e];rfl
   have ih:=vB h.2 hr;cases z with
   | v z=>cases z with
     | int k n=>cases x with
       | v x=>cases x with
         | int k' n'=>
           have:k=k':=by simpa[pC]using h.1
           subst this;simp only[ko,ih]
           congr 3
           exact(show ag es i j=_ by simp only[ag,hx,KH])
         |_=>simp[pC]at h
       |_=>simp[pC]at h
     | bool b=>cases x with
       | v x=>cases x with
         | bool b'=>
           simp only[ko,ih]
           congr 3
           exact(show pf es i j=_ by simp only[pf,hx,lfB])
         |_=>simp[pC]at h
       |_=>simp[pC]at h
     | string b=>cases x with
       | v x=>cases x with
         | string b'=>
           simp only[ko,ih]
           congr 3
           exact(show Ml es i j=_ by simp only[Ml,hx,lfT])
         |_=>simp[pC]at h
       |_=>simp[pC]at h
     |_=>simp[pC]at h
   | s sz es0=>cases x with
     | s sz' es'=>
       have:sz=sz':=by simpa[pC]using h.1
       subst this;simp only[ko,ih]
       congr 2
       exact(show ax es i j=_ by simp only[ax,hx,MB])
     |_=>simp[pC]at h
   |g=>simp[pC]at h
   |m _ _=>simp[pC]at h
theorem PS {z:aO}{es:af}{i:Int}(hr:Wf z es)(h0:0<=i)(h1:i<es.length):0<=i/\i<es.length/\es.getD i.toNat []=ko am es i 0 z:=
 ⟨h0,h1,(vB (t:=[]) (hr.at (by omega)) (by simp)).symm⟩
theorem j8 {sz:Nat}{es:af}{n j:Nat}:bQ (.s sz es) [(n,j)]=(es[n]?).map (·,j):=rfl
theorem zn {sz:Nat}{es:af}{n j:Nat}:uk (.s sz es) [(n,j)]=ag es n j:=by
 simp only[uk,QK,QL,ag,pf,Ml,Fs,j8,ZE,Zo];cases es[n]? with
 |none=>rfl
 | some e=>
   simp only[Ym,Z5];cases e[j]? with
   |none=>rfl
   | some x=>cases x with
     |v x=>cases x<;>rfl
     |_=>rfl
theorem Py {sz:Nat}{es:af}{n j:Nat}:QK (.s sz es) [(n,j)]=pf es n j:=by
 simp only[uk,QK,QL,ag,pf,Ml,Fs,j8,ZE,Zo];cases es[n]? with
 |none=>rfl
 | some e=>
   simp only[Ym,Z5];cases e[j]? with
   |none=>rfl
   | some x=>cases x with
     |v x=>cases x<;>rfl
     |_=>rfl
theorem PF {sz:Nat}{es:af}{n j:Nat}:QL (.s sz es) [(n,j)]=Ml es n j:=by
 simp only[uk,QK,QL,ag,pf,Ml,Fs,j8,ZE,Zo];cases es[n]? with
 |none=>rfl
 | some e=>
   simp only[Ym,Z5];cases e[j]? with
   |none=>rfl
   | some x=>cases x with
     |v x=>cases x<;>rfl
     |_=>rfl
theorem PE {sz:Nat}{es:af}{n j:Nat}:mR (.s sz es) [(n,j)]=ax es n j:=by
 simp only[mR,ax,gW,j8,ZE,Zo];cases es[n]? with
 |none=>rfl
 | some e=>
   simp only[Ym,Z5];cases e[j]? with
   |none=>rfl
   |some x=>cases x<;>rfl
theorem Lj:am.pi=uk:=rfl
theorem Li:am.pb=QK:=rfl
theorem Ll:am.pt=QL:=rfl
theorem Lk:am.ps=mR:=rfl
theorem Lf:am.gi=ag:=rfl
theorem Le:am.gb=pf:=rfl
theorem Lh:am.gt=Ml:=rfl
theorem Lg:am.gs=ax:=rfl
theorem AK {sz:Nat}{es:af}{n o:Nat}:∀ {z:aO} {j:Nat},j5 am (.s sz es) [(n,o)] j z=ko am es n (o+j) z
 |[],j=>rfl
 | z::zs,j=>by
   have ih:j5 am (.s sz es) [(n,o)] (j+1) zs=ko am es n (o+j+1) zs:=AK;cases z with
   |v x=>cases x<;>simp only[j5,ko,wT,Lj,Li,Ll,Lf,Le,Lh,zn,Py,PF,ih]
   |s a b=>simp only[j5,ko,wT,Lk,Lg,PE,ih]
   |g=>simp only[j5,ko,ih]
   |m _ _=>simp only[j5,ko,ih]
theorem eU {z z0:aO}{sz:Nat}{es:af}{n o:Nat}(hr:Wf z0 es)(hn:n<es.length)(hz:(z0.drop o).take z.length=z)(ho:o+z.length<=z0.length):
 ∃ rec o',bQ (.s sz es) [(n,o)]=some (rec,o')/\o'+z.length<=rec.length/\(rec.drop o').take z.length=j5 am (.s sz es) [(n,o)] 0 z:=by
 have hf:=hr.at hn;have e1:es[n]?=some (es.getD n []):=by rw[Zo,Zs hn];rfl
 refine⟨es.getD n [],o,by rw[j8,e1];rfl,?_,?_⟩
 ·rw[sN hf];exact ho
 ·have hf2:kX z (((es.getD n []).drop o).take z.length)=true:=by
   have:=xU z.length (xT o hf);rw[hz]at this;exact this
  rw[AK]
  symm
  exact vB (t:=((es.getD n []).drop o).drop z.length) hf2 (by rw[Yl,ZE];exact(ZI _ _).symm)
end Go.V
namespace Go.V
inductive Ty where
 |int (k:IntKind)
 |bool
 |str
 |sl (fs:List Ty)
mutual
def dz:Ty->L->Prop
 | .int k,.v (.int k' n)=>k'=k/\k.has n
 | .bool,.v (.bool _)=>True
 | .str,.v (.string s)=>s.size<=maxLen
 | .sl fs,.s sz es=>sz=fs.length/\es.length<=maxLen/\∀ e∈es,cy fs e
 |_,_=>False
def cy:List Ty->aO->Prop
 |[],[]=>True
 |t::ts,l::ls=>dz t l/\cy ts ls
 |_,_=>False
end
def shape (P:Program):Nat->TypeId->Option (List Ty)
 |0,_=>none
 | k+1,t=>
   let r:Option (List Ty):=match P.underlying t with
    |some (.int kd)=>some [.int kd]
    |some .bool=>some [.bool]
    |some .string=>some [.str]
    | some (.slice e)=>match shape P k e with
      |some (f::fs)=>if P.cellsOf e=(f::fs).length then some [.sl (f::fs)]else none
      |_=>none
    | some (.struct fs)=>(fs.toList.foldl (fun acc fd=>match acc,shape P k fd.type with
       |some acc,some ts=>if fd.offset=acc.length/\P.cellsOf fd.type=ts.length then some (acc++ts)else none
       |_,_=>none) (some []))
    |_=>none
   match r with
   |some ts=>if P.cellsOf t=ts.length then some ts else none
   |none=>none
theorem qf:∀ {ts us:List Ty} {r s:aO},cy ts r->cy us s->cy (ts++us) (r++s)
 |[],us,[],s,_,h2=>h2
 |[],_,_::_,_,h,_=>by simp[cy]at h
 |_::_,_,[],_,h,_=>by simp[cy]at h
 | t::ts,us,l::ls,s,h,h2=>by
   simp only[cy,List.cons_append]at h ⊢;exact⟨h.1,qf h.2 h2⟩
section
variable {P: Program} {w: World}
theorem ES {sz:Nat}{c:aO->Prop}:∀ (len:Nat) (l:List Value),l.length=len*sz->(∀ i,i<len->∃ rec S,ak w rec ((l.drop (i*sz)).take sz) S/\c rec)->
 ∃ es S,es.length=len/\bB w sz es l S/\∀ e∈es,c e
 |0,l,hl,_=>⟨[],[],rfl,by simp only[bB];exact⟨YA (by simpa using hl),trivial⟩,fun e h=>by cases h⟩
 | len+1,l,hl,h=>by
   obtain⟨rec,S,h1,h2⟩:=h 0 (by omega);have hsz:sz<=l.length:=by rw[hl,Zm];omega
   obtain⟨es,T,k1,k2,k3⟩:=ES (sz:=sz) (c:=c) len (l.drop sz) (by rw[Zn,hl,Zm];omega) (fun i hi=>by
    obtain⟨rec,S,h1,h2⟩:=h (i+1) (by omega);refine⟨rec,S,?_,h2⟩;rw[Z8];rw[show sz+i*sz=(i+1)*sz from by rw[Zm];omega];exact h1)
   refine⟨rec::es,S++T,by simp[k1],?_,?_⟩
   ·simp only[bB];refine⟨l.take sz,l.drop sz,S,T,(ZI _ _).symm,by simp;omega,by simpa using h1,k2,rfl⟩
   ·intro e he;rcases Zk.1 he with rfl|he;exact h2;exact k3 e he
theorem vm {a:Addr}{n:Nat}{cs:List Value}(h:w.cells? 0 a n=some cs):cs.length=n/\∀ k,k<n->w.cell? (a.add k)=cs[k]?:=by
 unfold World.cells? at h;rw[VN (ZF _)]at h;have hl:=mapM_some_length h;refine⟨by simpa using hl,fun k hk=>mapM_some_get h k k (by simp[hk])⟩
theorem add_add' (a:Addr)(ha:a.spot=none)(i k:Nat):(a.add i).add k=⟨a.block,a.off+i+k,none⟩:=by
 obtain⟨b,o,s⟩:=a;simp only at ha;subst ha;unfold Addr.add;split<;>split<;>simp_all<;>omega
theorem pD {α:Type}{f:Option (List Ty)->α->Option (List Ty)}(hf:∀ x,f none x=none):∀ (l:List α),l.foldl f none=none
 |[]=>rfl
 |x::l=>by rw[Wb,hf];exact pD hf l
theorem rR {H:Type}{enc:TypeId×Value->H}:∀ (k:Nat) (t:TypeId) (ts:List Ty),shape P k t=some ts->∀ (fuel:Nat) (cs:List Value) (x:DataW H×List MemPlace),Xj enc P w 0 (fun _=>true) true fuel t cs=some x->
 ∃ rec S,ak w rec cs S/\cy ts rec
 |0,t,ts,hs,_,_,_,_=>by simp[shape]at hs
 |k+1,t,ts,hs,0,_,_,h=>by simp[Xj]at h
 | k+1,t,ts,hs,fuel+1,cs,x,h=>by
   simp only[shape]at hs;have hcell:P.cellsOf t=ts.length:=by
    split at hs
    ·rename_i r _;split at hs
     ·rename_i hc;cases hs;exact hc
     ·cases hs
    ·cases hs
   unfold Xj at h;cases hu:P.underlying t with
   |none=>simp[hu]at hs
   | some d=>
     simp only[hu]at hs h;cases d with
     | int kd=>
       have:ts=[.int kd]:=by
        simp only at hs;split at hs
        ·cases hs;rfl
        ·cases hs
       subst this
       match cs,h with
       | [.int k' n],h=>
         simp only at h;split at h
         ·rename_i hc;obtain⟨rfl,hwf⟩:=hc;simp only[Lit.wf,Zc,VM]at hwf;exact⟨[.v (.int k' n)],[],by simp[ak,bN,scal],by simp only[cy,dz];exact⟨⟨trivial,hwf⟩,trivial⟩⟩
         ·cases h
     | bool=>
       have:ts=[.bool]:=by
        simp only at hs;split at hs
        ·cases hs;rfl
        ·cases hs
       subst this
       match cs,h with
       |[.bool b],h=>exact⟨[.v (.bool b)],[],by simp[ak,bN,scal],by simp[cy,dz]⟩
     | string=>
       have:ts=[.str]:=by
        simp only at hs;split at hs
        ·cases hs;rfl
        ·cases hs
       subst this
       match cs,h with
       | [.string b],h=>
         simp only at h;split at h
         ·rename_i hc;exact⟨[.v (.string b)],[],by simp[ak,bN,scal],by simp only[cy,dz];exact⟨hc,trivial⟩⟩
         ·cases h
     | slice e=>
       simp only at hs;cases he:shape P k e with
       |none=>simp[he]at hs
       | some fs=>
         cases fs with
         |nil=>simp[he]at hs
         | cons f fs=>
           simp only[he]at hs;split at hs
           ·rename_i r hr;split at hr
            ·rename_i hce;cases hr;split at hs
             ·cases hs
              match cs,h with
              | [.slice none 0 0],h=>
                refine⟨[.s (f::fs).length []],[],?_,?_⟩
                ·simp only[ak,bN];exact⟨_,[],[],[],rfl,⟨none,0,0,rfl,rfl,Zf _,ZF _,.inl ⟨rfl,rfl⟩⟩,⟨rfl,rfl⟩,rfl⟩
                ·simp only[cy,dz];exact⟨⟨trivial,ZF _,fun e h=>by cases h⟩,trivial⟩
              | [.slice (some a) len cap],h=>
                simp only at h;split at h
                ·rename_i hb;obtain⟨_,hlc,hcm⟩:=hb;simp only[if_true,Zy,XP]at h;obtain⟨elems,hel,rest,hrest,_⟩:=h;have hsz:P.cellsOf e=(f::fs).length:=hce;have hszp:0<P.cellsOf e:=by rw[hsz];simp
                 have hat:∀ i,i<cap->∃ ci y,w.cells? 0 (a.add (i*P.cellsOf e)) (P.cellsOf e)=some ci/\Xj enc P w 0 (fun _=>true) true fuel e ci=some y:=by
                  intro i hi;rcases Z7 i len with c|c
                  ·have:=mapM_some_get hel i i (Xe c);have hl:=mapM_some_length hel;simp only[Xm]at hl;rw[Zs (by omega)]at this;simp only[XP]at this;obtain⟨ci,h1,h2⟩:=this;exact⟨ci,_,h1,h2⟩
                  ·have:=mapM_some_get hrest (i-len) (i-len) (Xe (by omega));have hl:=mapM_some_length hrest;simp only[Xm]at hl;rw[Zs (by omega)]at this;simp only[XP]at this;obtain⟨ci,h1,h2⟩:=this;rw[show len+(i-len)=i from by omega]at h1;exact⟨ci,_,h1,h2⟩
                 by_cases hc0:cap=0
                 ·subst hc0;have:len=0:=by omega
                  subst this;refine⟨[.s (f::fs).length []],[],?_,?_⟩
                  ·simp only[ak,bN];exact⟨_,[],[],[],rfl,⟨some a,0,0,rfl,rfl,Zf _,ZF _,.inl ⟨rfl,rfl⟩⟩,⟨rfl,rfl⟩,rfl⟩
                  ·simp only[cy,dz];exact⟨⟨trivial,ZF _,fun e h=>by cases h⟩,trivial⟩
                 ·obtain⟨c0,y0,z1,z2⟩:=hat 0 (by omega);have z3:=(vm z1).2 0 hszp;have hz4:∃ v,w.cell? a=some v:=by
                   rw[Nat.zero_mul]at z3;have:(a.add 0).add 0=a:=rfl;rw[this]at z3;rw[z3];have:=(vm z1).1;exact⟨_,Zs (by omega)⟩
                  obtain⟨v0,hv0⟩:=hz4;have hblk:∃ cur ty fz,w.heap[a.block]?=some (.cells cur ty fz)/\a.spot=none:=by
                   unfold Yq at hv0;split at hv0
                   ·rename_i cur ty fz hh;refine⟨cur,ty,fz,hh,?_⟩;cases hsp:a.spot with
                    |none=>rfl
                    |some s=>simp[hsp]at hv0
                   ·cases hv0
                  obtain⟨cur,ty,fz,hh,hsp⟩:=hblk;have hcellat:∀ j,w.cell? ⟨a.block,j,none⟩=cur[j]?:=by
                   intro j;unfold Yq;simp[hh]
                  have hel2:∀ i,i<cap->∃ ci y,ci.length=P.cellsOf e/\(∀ kk,kk<P.cellsOf e->cur[a.off+i*P.cellsOf e+kk]?=ci[kk]?)/\Xj enc P w 0 (fun _=>true) true fuel e ci=some y:=by
                   intro i hi;obtain⟨ci,y,h1,h2⟩:=hat i hi;obtain⟨h3,h4⟩:=vm h1;refine⟨ci,y,h3,fun kk hkk=>?_,h2⟩;rw[<-h4 kk hkk,add_add' a hsp,hcellat]
                  have hfit:a.off+cap*P.cellsOf e<=cur.size:=by
                   obtain⟨ci,y,h1,h2,_⟩:=hel2 (cap-1) (by omega);have:=h2 (P.cellsOf e-1) (by omega);rw[Zs (by omega)]at this;have hlt:=(Zz.1 this).1;have:cap*P.cellsOf e=(cap-1)*P.cellsOf e+P.cellsOf e:=by
                    rw[<-Wc];congr 1;omega
                   omega
                  have hle:len*P.cellsOf e<=cap*P.cellsOf e:=ZJ _ hlc;obtain⟨es,S,k1,k2,k3⟩:=ES (w:=w) (sz:=P.cellsOf e) (c:=cy (f::fs)) len ((cur.toList.drop a.off).take (len*P.cellsOf e)) (by simp only[List.length_take,Zn,Array.length_toList];omega) (fun i hi=>by
                   obtain⟨ci,y,h1,h2,h3⟩:=hel2 i (by omega);obtain⟨rec,S,r1,r2⟩:=rR k e (f::fs) he fuel ci y h3;refine⟨rec,S,?_,r2⟩;have:(((cur.toList.drop a.off).take (len*P.cellsOf e)).drop (i*P.cellsOf e)).take (P.cellsOf e)=ci:=by
                    apply List.ext_getElem?;intro kk;have hii:(i+1)*P.cellsOf e<=len*P.cellsOf e:=ZJ _ hi;rw[Wc]at hii;simp only[List.getElem?_take,Zv];by_cases ck:kk<P.cellsOf e
                    ·rw[VN ck,VN (by omega), <-h2 kk ck,ZW];congr 1;omega
                    ·rw[VO ck,Z6 (by omega)]
                   rw[this];exact r1)
                  refine⟨[.s (f::fs).length es],a.block::S,?_,?_⟩
                  ·simp only[ak,bN];refine⟨_,[],a.block::S,[],rfl,⟨some a,len,cap,rfl,k1.symm,hlc,hcm,.inr ⟨a.block,a.off,cur,ty,fz,S,?_,hh,by rw[<-hsz];exact hfit,by rw[<-hsz];exact k2,rfl⟩⟩,⟨rfl,rfl⟩,by simp⟩;obtain⟨b,o,s⟩:=a;simp only at hsp;subst hsp;rfl
                  ·simp only[cy,dz];exact⟨⟨trivial,by omega,k3⟩,trivial⟩
                ·cases h
             ·cases hs
            ·cases hr
           ·cases hs
     | struct fs=>
       simp only at hs;generalize hfold:(fs.toList.foldl (fun acc fd=>match acc,shape P k fd.type with
        |some acc,some ts=>if fd.offset=acc.length/\P.cellsOf fd.type=ts.length then some (acc++ts)else none
        |_,_=>none) (some []))=r at hs
       cases r with
       |none=>cases hs
       | some ts0=>
         simp only at hs;by_cases hc0:P.cellsOf t=ts0.length
         case neg=>rw[VO hc0]at hs;cases hs
         rw[VN hc0]at hs;cases hs;simp only at h;split at h
         ·rename_i hcl;simp only[Zy]at h;obtain⟨xs,hxs,_⟩:=h;have key:∀ (l:List Field) (acc:List Ty) (xs:List (DataW H×List MemPlace)),l.foldl (fun acc fd=>match acc,shape P k fd.type with
           |some acc,some ts=>if fd.offset=acc.length/\P.cellsOf fd.type=ts.length then some (acc++ts)else none
           |_,_=>none) (some acc)=some ts->l.mapM (fun f=>Xj enc P w 0 (fun _=>true) true fuel f.type ((cs.drop f.offset).take (P.cellsOf f.type)))=some xs->
           ∃ tl,ts=acc++tl/\∃ rec S,ak w rec ((cs.drop acc.length).take tl.length) S/\cy tl rec:=by
           intro l
           induction l with
           |nil=>intro acc xs h _;simp only[List.foldl_nil,Yf]at h;exact⟨[],by simp[h],[],[],by simp[ak],by simp[cy]⟩
           | cons fd l ih=>
             intro acc xs h hm;rw[Wb]at h;cases hsf:shape P k fd.type with
             |none=>simp only[hsf]at h;rw[pD (fun _=>rfl)]at h;cases h
             | some us=>
               simp only[hsf]at h;by_cases hc:fd.offset=acc.length/\P.cellsOf fd.type=us.length
               ·rw[VN hc]at h;simp only[List.mapM_cons,Option.bind_eq_bind,XP]at hm;obtain⟨y,hy,ys,hys,_⟩:=hm;obtain⟨tl,e1,rec,S,r1,r2⟩:=ih (acc++us) ys h hys;obtain⟨rec0,S0,q1,q2⟩:=rR k fd.type us hsf fuel _ y hy;refine⟨us++tl,by rw[e1,List.append_assoc],rec0++rec,S0++S,?_,qf q2 r2⟩;have e2:(cs.drop acc.length).take (us++tl).length=(cs.drop fd.offset).take (P.cellsOf fd.type)++(cs.drop (acc++us).length).take tl.length:=by
                 rw[hc.1,hc.2,Ze,Ze,List.take_add,Z8]
                rw[e2];exact q1.append r1
               ·rw[VO hc]at h;rw[pD (fun _=>rfl)]at h;cases h
          obtain⟨tl,e1,rec,S,r1,r2⟩:=key fs.toList [] xs hfold hxs;simp only[Z0]at e1;subst e1;refine⟨rec,S,?_,r2⟩;rw[hcell]at hcl
          simpa[<-hcl]using r1
         ·cases h
     |_=>simp at hs
end
end Go.V
namespace Go.V
open Go.ChangeShapes Go.WideShapes Go.ChangeAt Go.RowKit
def Dt:Bool->aO->DV
 |true,rec=>.agg rec
 |false,[l]=>.one l
 |false,rec=>.agg rec
def yv:List (Bool×List Ty)->af->List DV
 |(b,_)::sh,r::rs=>Dt b r::yv sh rs
 |_,_=>[]
def AG:List (Bool×List Ty)->af->Prop
 |[],[]=>True
 |(_,ts)::sh,r::rs=>cy ts r/\AG sh rs
 |_,_=>False
def AY (P:Program)(t:TypeId):Bool:=match P.underlying t with
 |some (.struct _)=>true
 |_=>false
def zD (P:Program)(t:TypeId):Option (Bool×List Ty):=(shape P 12 t).map (AY P t, ·)
section
variable {P: Program} {w: World} {H: Type} {enc: TypeId × Value -> H}
theorem IJ {t:TypeId}{b:Bool}{ts:List Ty}(hs:zD P t=some (b,ts)){base:Nat}{v:Value}(hok:YS P w .any base t v){d:DataW H}{ps:List MemPlace} 
 (h:DataW.Trod enc P w 0 (fun _=>true) true t v d ps):∃ rec S,cy ts rec/\ie w (Dt b rec) v S:=by
 unfold zD at hs;cases hsh:shape P 12 t with
 |none=>simp[hsh]at hs
 | some ts'=>
   simp only[hsh,Ym,Yf,WT]at hs;obtain⟨hb,rfl⟩:=hs;obtain⟨fuel,h⟩:=h;obtain⟨rec,S,h1,h2⟩:=rR _ _ _ hsh _ _ _ h;refine⟨rec,S,h2,?_⟩;unfold AY at hb;cases hu:P.underlying t with
   |none=>simp[shape,hu]at hsh
   | some ud=>
     have hcell:∀ (hv:v.cells= #[v]) (hbf:b=false),∃ l,rec=[l]/\ie w (Dt b rec) v S:=by
      intro hv hbf;rw[hv]at h1;have hl:=h1.length;simp only[Zr,Zt]at hl;obtain⟨l,rfl⟩:=List.length_eq_one_iff.1 hl.symm;refine⟨l,rfl,?_⟩;simp only[ak]at h1;obtain⟨v',vs',S1,S2,e,q1,⟨rfl,rfl⟩,rfl⟩:=h1;simp at e;obtain⟨rfl,_⟩:=e;rw[hbf]
      simpa[Dt,ie]using q1
     cases ud with
     | struct fs=>
       simp only[hu]at hb;subst hb;simp only[YS,hu]at hok;obtain⟨cs,rfl,_,_⟩:=hok;exact⟨cs.toList,by simp,h1⟩
     | int k=>
       simp only[YS,hu,XQ,XR]at hok;split at hok<;>first|exact hok.elim|skip
       all_goals first|(obtain⟨l,rfl,h3⟩:=hcell rfl (by simpa[hu]using hb.symm);exact h3)|(rename_i hx _;cases hx)
     | bool=>
       simp only[YS,hu,XQ,XR]at hok;split at hok<;>first|exact hok.elim|skip
       all_goals first|(obtain⟨l,rfl,h3⟩:=hcell rfl (by simpa[hu]using hb.symm);exact h3)|(rename_i hx _;cases hx)
     | string=>
       simp only[YS,hu,XQ,XR]at hok;split at hok<;>first|exact hok.elim|skip
       all_goals first|(obtain⟨l,rfl,h3⟩:=hcell rfl (by simpa[hu]using hb.symm);exact h3)|(rename_i hx _;cases hx)
     | slice e=>
       simp only[YS,hu,XQ,XR]at hok;split at hok<;>first|exact hok.elim|skip
       all_goals first|(obtain⟨l,rfl,h3⟩:=hcell rfl (by simpa[hu]using hb.symm);exact h3)|(rename_i hx _;cases hx)
     |_=>simp[shape,hu]at hsh
theorem ie.arg {d:DV}{v:Value}{S:List Nat}(h:ie w d v S):mz w d v S:=by
 cases d with
 |one l=>exact h
 |agg l=>exact h
 |_=>exact h.elim
theorem ye:∀ (ts:List TypeId) (sh:List (Bool×List Ty)) (vs:List Value) (ds:List (DataW H)) (ps:List MemPlace) (base:Nat),(ts.map (zD P))=sh.map some->
 (∀ (j:Nat) t v,ts[j]?=some t->vs[j]?=some v->YS P w .any base t v)->XS enc P w 0 (fun _=>true) true ts vs ds ps->
 ∃ recs,AG sh recs/\dR (fun _=>True) w (yv sh recs) vs
 | [],[],vs,ds,ps,base,_,_,h=>by
   obtain⟨rfl,rfl,rfl⟩:=trodAll_nil h;exact⟨[],trivial,rfl⟩
 |[],_::_,_,_,_,_,h,_,_=>by simp at h
 |_::_,[],_,_,_,_,h,_,_=>by simp at h
 | t::ts,(b,us)::sh,vs,ds,ps,base,hsh,hok,h=>by
   simp only[ZU,Vh]at hsh;obtain⟨v,vs',d,ds',p,q,rfl,rfl,rfl,h1,h2⟩:=trodAll_cons h;obtain⟨rec,S,r1,r2⟩:=IJ hsh.1 (hok 0 t v rfl rfl) h1;obtain⟨recs,k1,k2⟩:=ye ts sh vs' ds' q base hsh.2 (fun j t' v' e1 e2=>hok (j+1) t' v' (by simpa using e1) (by simpa using e2)) h2;exact⟨rec::recs,⟨r1,k1⟩,v,vs',S,rfl,r2.arg,fun _ _=>trivial,k2⟩
theorem Same.below {w w':World}(h:Same (fun _=>True) w w'):Below w.heap.size w w':=⟨h.os,h.tape,h.output,h.size,fun k hk=>h.block k hk trivial⟩
theorem Same.keptBut {w w':World}(h:Same (fun _=>True) w w')(may:MemPlace->Prop):w.keptBut w' may:=by
 refine⟨h.os,h.output,fun i hi=>?_⟩;rw[h.block i hi trivial];cases w.heap[i]? with
 |none=>rfl
 | some o=>cases o with
   |cells c t fr=>exact⟨rfl,rfl,rfl,fun _ _=>rfl⟩
   |map es clock=>exact .inr ⟨rfl,rfl⟩
   |_=>rfl
theorem pk {w':World}(hl:laidOutB P=true)(hb:Below w.heap.size w w'):∀ (ts:List TypeId) (vs:List Value) (ds:List (DataW H)) (ps:List MemPlace),(ts.all fun t=>P.readableRec t&&decide (t<P.types.size))=true->
 XS enc P w 0 (fun _=>true) true ts vs ds ps->(∀ x∈ps,x.block<w.heap.size)->XS enc P w' 0 (fun b=>decide (b<w.heap.size)) true ts vs ds ps
 | [],vs,ds,ps,_,h,_=>by
   obtain⟨rfl,rfl,rfl⟩:=trodAll_nil h;exact trodAll_mk0
 | t::ts,vs,ds,ps,hr,h,hlt=>by
   obtain⟨v,vs',d,ds',p,q,rfl,rfl,rfl,h1,h2⟩:=trodAll_cons h;simp only[List.all_cons,Zc,VM]at hr;exact⟨p,q,Below.trod hl hr.1.1 hr.1.2 h1 hb (fun x hx=>hlt x (by simp[hx])),pk hl hb ts vs' ds' q (by simpa using hr.2) h2 (fun x hx=>hlt x (by simp[hx])),rfl⟩
theorem FB {f:FuncId}{fn:Func}{s:ChangeSpec}{sh:List (Bool×List Ty)}{tb:TypeId}(hvars:s.vars=[])(hspec:∀ ds:List (DataW H),ds.length=fn.params.toList.length->s.fn H (ds++[])=⟨[.lit (.bool true)],ds,[]⟩) 
 (hrt:fn.resultTypes= #[tb]) (htb:P.underlying tb=some .bool) (hl:laidOutB P=true) (hread:(fn.params.toList.all fun t=>P.readableRec t&&decide (t<P.types.size))=true)
 (hsh:fn.params.toList.map (zD P)=sh.map some) (hctr:∀ recs,AG sh recs->JF P f (yv sh recs) [.k true])
 {base:Nat} {args:Array Value} {ds gs:List (DataW H)} {before:List MemPlace} (hval:∀ (j:Nat) t v,fn.params[j]?=some t->args[j]?=some v->YS P w .any base t v)
 (hW:DataW.Whole enc P fn.params.toList s.vars false w args.toList ds gs before):
 Calls P f args w fun e w'=>∃ v,e=.returned v/\s.post enc P fn false true false false w args v w':=by
 have hW':=hW;obtain⟨p,q,hA,hV,rfl,hfz,hnd⟩:=hW;rw[hvars]at hV;obtain⟨rfl,rfl⟩:=trodVars_none hV;obtain⟨recs,h1,h2⟩:=ye fn.params.toList sh args.toList ds p base hsh (fun j t v e1 e2=>hval j t v (by simpa using e1) (by simpa using e2)) hA;have hc:=hctr recs h1 w args.toList h2;rw[Array.toArray_toList]at hc;refine hc.mono ?_;rintro e w' ⟨v,S,rfl,hr,_,_,hsame⟩;simp only[gF,ie,bN]at hr;obtain⟨rfl,_,_⟩:=hr;have hlen:∀ (ts:List TypeId) (vs:List Value) (ds:List (DataW H)) (ps:List MemPlace),XS enc P w 0 (fun _=>true) true ts vs ds ps->ds.length=ts.length:=by
  intro ts
  induction ts with
  |nil=>intro vs ds ps h;obtain⟨_,rfl,_⟩:=trodAll_nil h;rfl
  |cons t ts ih=>intro vs ds ps h;obtain⟨v,vs',d,ds',p,q,rfl,rfl,rfl,_,h2⟩:=trodAll_cons h;simp[ih _ _ _ h2]
 have e1:s.fn H (ds++[])=⟨[.lit (.bool true)],ds,[]⟩:=hspec ds (hlen _ _ _ _ hA);refine⟨_,rfl,ds,[],p++[],[],p,[],hW',?_,?_,?_,hsame.keptBut _,fun h=>by cases h⟩
 ·rw[e1,hrt];exact trodAll_mk1 (shut_bool htb true)
 ·rw[e1];exact pk hl hsame.below _ _ _ _ hread hA (fun x hx=>hW'.lt x (by simpa using hx))
 ·rw[e1,hvars];rfl
end
end Go.V
namespace Go.V
theorem bT {a b:Int}(h: -9223372036854775808<=a+b/\a+b<=9223372036854775807):bK .add Za a b=a+b:=YT _ h
theorem fG {a b:Int}(h: -9223372036854775808<=a-b/\a-b<=9223372036854775807):bK .sub Za a b=a-b:=YT _ h
theorem j7 {α:Type}{es:List α}{d:α}{i:Nat}(hi:i<es.length):es.take (i+1)=es.take i++[es.getD i d]:=by
 rw[List.take_succ_eq_append_getElem hi,Zo,Zs hi];rfl
theorem oP {sz:Nat}{es:af}{n:Nat}{new:aO}(h:(es.getD n []).length=new.length):pm (.s sz es) [(n,0)] new=es.set n new:=by
 simp only[pm,lK,rowOf,List.take_zero,Z0,ZP];rw[List.drop_of_length_le (by omega),Z2]
theorem iJ {sz:Nat}{es:af}{n o m:Nat}(hn:n<es.length)(hl:o+m<=(es.getD n []).length):∃ rec o',bQ (.s sz es) [(n,o)]=some (rec,o')/\o'+m<=rec.length:=by
 refine⟨es.getD n [],o,?_,hl⟩;rw[j8,Zo,Zs hn];rfl
theorem Ci {z:aO}{es:af}{i:Int}(hr:Wf z es)(h0:0<=i)(h1:i<es.length):ko am es i 0 z=es.getD i.toNat []:=(PS hr h0 h1).2.2.symm
theorem JV {a b:Int}:(cU .eql a b=true)↔a=b:=by simp[cU]
theorem JU {a b:Int}:(cU .eql a b=false)↔a≠b:=by simp[cU]
theorem J5 {a b:Int}:(cU .neq a b=true)↔a≠b:=by simp[cU]
theorem J4 {a b:Int}:(cU .neq a b=false)↔a=b:=by simp[cU]
theorem J3 {a b:Int}:(cU .lss a b=true)↔a<b:=by simp[cU]
theorem J2 {a b:Int}:(cU .lss a b=false)↔b<=a:=by simp[cU]
theorem J1 {a b:Int}:(cU .leq a b=true)↔a<=b:=by simp[cU]
theorem J0 {a b:Int}:(cU .leq a b=false)↔b<a:=by simp[cU]
theorem JZ {a b:Int}:(cU .gtr a b=true)↔b<a:=by simp[cU]
theorem JY {a b:Int}:(cU .gtr a b=false)↔a<=b:=by simp[cU]
theorem JX {a b:Int}:(cU .geq a b=true)↔b<=a:=by simp[cU]
theorem JW {a b:Int}:(cU .geq a b=false)↔a<b:=by simp[cU]
theorem acg {b:Bool}:(GD b=true)↔b=false:=by cases b<;>simp[GD]
theorem acf {b:Bool}:(GD b=false)↔b=true:=by cases b<;>simp[GD]
theorem GG {a b:Bool}:(An .eql a b=true)↔a=b:=by simp[An]
theorem GF {a b:Bool}:(An .eql a b=false)↔a≠b:=by simp[An]
theorem GI {a b:Bool}:(An .neq a b=true)↔a≠b:=by simp[An]
theorem GH {a b:Bool}:(An .neq a b=false)↔a=b:=by simp[An]
theorem az {i:Int}:adI 0 i=i.toNat:=ZP _
theorem nc {n:Nat}:(VJ n:Int)=Wu n:=rfl
theorem sa {es:af}:oY es 0 es.length=es:=by simp[oY]
end Go.V
namespace Go.V
section
variable {P: Program} {cx: Cx} {G: Gh} {g: Gm} {a: Act} {w: World}
end
end Go.V
namespace Go.V
def TO {Φ:Type}(_:Φ):MT:=fun _=>none
def noC {Φ:Type}(_:Φ):CT:=fun _ _=>none
section
variable {P: Program} {T: Am} {cx: Cx} {G: Gh} {g: Gm} {a: Act} {w: World}
theorem yg {fn:Func}{tmps:Array Value}{w':World}{vs':List Value}{ds':List DV}{S:List Nat}(k1:(fn.results.toList.mapM (nX tmps)).run P w'=.ok vs' w')(k2:cd w' ds' vs' S):
 ∃ v,(results fn tmps).run P w'=.ok v w'/\gF w' ds' v S:=by
 have hrun:(results fn tmps).run P w'=.ok (if h:vs'.toArray.size=1 then vs'.toArray[0]else .tuple vs'.toArray) w':=by
  rw[wi,Wj (m:=Sem)];simp only[Sem.run_bind,Sem.run_map,k1,Result.andThen_ok,Sem.run_pure]
 refine⟨_,hrun,?_⟩;have hl:∀ {ds:List DV} {vs:List Value} {S:List Nat},cd w' ds vs S->vs.length=ds.length:=by
  intro ds
  induction ds with
  |nil=>intro vs S h;simp only[cd]at h;simp[h.1]
  |cons d ds ih=>intro vs S h;simp only[cd]at h;obtain⟨v,vs',S1,S2,rfl,_,h2,_⟩:=h;simp[ih h2]
 have hlen:=hl k2;cases ds' with
 | nil=>
   have:vs'=[]:=YA hlen;subst this;exact⟨[],by simp,k2⟩
 | cons d1 rest=>
   cases rest with
   | nil=>
     simp only[cd]at k2;obtain⟨v,vs'',S1,S2,rfl,q1,⟨rfl,rfl⟩,rfl⟩:=k2
     simpa[gF]using q1
   | cons d2 rest=>
     have:¬ vs'.toArray.size=1:=by simp at hlen;simp;omega
     rw[dif_neg this];exact⟨vs',rfl,k2⟩
theorem KR {Φ:Type}{F:Φ}:Fb P (TO F):=by intro f mk h;cases h
theorem Pp {Φ:Type}{F:Φ}:Aq P (noC F):=by intro f ds pre res h;cases h
end
end Go.V
namespace Go.V
abbrev PT :=FuncId->Option PK
abbrev NT :=FuncId->Option NK
abbrev OT :=FuncId->Option Nt
def TQ {Φ:Type}(_:Φ):OT:=fun _=>none
theorem KT {P:Program}{Φ:Type}{F:Φ}:Ff P (TQ F):=by intro f mk h;cases h
def TP {Φ:Type}(_:Φ):NT:=fun _=>none
theorem KS {P:Program}{Φ:Type}{F:Φ}:Fe P (TP F):=by intro f mk h;cases h
def TR {Φ:Type}(_:Φ):PT:=fun _=>none
theorem KU {P:Program}{Φ:Type}{F:Φ}:Fg P (TR F):=by intro f mk h;cases h
def DX (r:Nat):Nat->List H->List Hv
 |_,[]=>[]
 |j,.own l::hs=>⟨0,0,none,.own l⟩::DX r (j+1) hs
 |j,h::hs=>⟨0,0,some (r*1000+j),h⟩::DX r (j+1) hs
def fj:Nat->List DV->VS
 |_,[]=>[]
 |p,.mp hs::ds=>.reg p (.one (.pt p 0)):: .root p true (DX p 0 hs)::fj (p+1) ds
 |p,d::ds=>.reg p (lR d)::fj (p+1) ds
def mpL:Nat->List DV->List (Nat×List H)
 |_,[]=>[]
 |p,.mp hs::ds=>(p,hs)::mpL (p+1) ds
 |p,_::ds=>mpL (p+1) ds
def ic:Nat->List DV->List fH->Nat->Option fH
 |p,.mp _::ds,q::ps,r=>if r=p then some q else ic (p+1) ds ps r
 |_,.mp _::_,[],_=>none
 |p,_::ds,ps,r=>ic (p+1) ds ps r
 |_,[],_,_=>none
theorem Co {r:Nat}:∀ {hs:List H} {j i:Nat} {h:Hv},(DX r j hs)[i]?=some h->∃ c,hs[i]?=some c/\h.ver=0/\h.iv=0/\h.c=c/\(∀ l,c=.own l->h.org=none)/\((∀ l,c≠ .own l)->h.org=some (r*1000+(j+i)))
 |[],j,i,h,e=>by simp[DX]at e
 | c::hs,j,i,h,e=>by
   cases i with
   | zero=>
     cases c with
     |own l=>simp[DX]at e;subst e;exact⟨_,rfl,rfl,rfl,rfl,fun _ _=>rfl,fun k=>absurd rfl (k l)⟩
     |ro l=>simp[DX]at e;subst e;exact⟨_,rfl,rfl,rfl,rfl,(fun _ k=>by cases k),fun _=>rfl⟩
     |gone=>simp[DX]at e;subst e;exact⟨_,rfl,rfl,rfl,rfl,(fun _ k=>by cases k),fun _=>rfl⟩
   | succ i=>
     have:(DX r (j+1) hs)[i]?=some h:=by cases c<;>simpa[DX]using e
     obtain⟨c',q1,q2,q3,q4,q5,q6⟩:=Co this;exact⟨c',by simpa using q1,q2,q3,q4,q5,fun k=>by rw[q6 k];congr 2;omega⟩
theorem vJ {r:Nat}:∀ {hs:List H} {j:Nat},(DX r j hs).length=hs.length
 |[],_=>rfl
 |c::hs,j=>by cases c<;>simp[DX,vJ (hs:=hs)]
section
variable {P: Program} {T: Am} {w: World} {ok: Nat -> Prop}
theorem fT.length:∀ {ds:List DV} {vs:List Value} {ps:List fH},fT w ok ds vs ps->vs.length=ds.length
 |[],vs,ps,h=>by simp only[fT]at h;simp[h.1]
 | d::ds,vs,ps,h=>by
   cases d with
   |mp hs=>obtain⟨p,ps',vs',rfl,rfl,_,h⟩:=h;simp[h.length]
   |one l=>obtain⟨v,vs',S,rfl,_,_,h⟩:=h;simp[fT.length h]
   |agg l=>obtain⟨v,vs',S,rfl,_,_,h⟩:=h;simp[fT.length h]
   |ptr l=>obtain⟨v,vs',S,rfl,_,_,h⟩:=h;simp[fT.length h]
   |fn f l=>obtain⟨v,vs',S,rfl,_,_,h⟩:=h;simp[fT.length h]
theorem Iy:∀ {ds:List DV} {ps:List fH} {p r:Nat} {q:fH},ic p ds ps r=some q->p<=r/\r<p+ds.length
 |[],ps,p,r,q,h=>by simp[ic]at h
 | d::ds,ps,p,r,q,h=>by
   have step:∀ ps,ic (p+1) ds ps r=some q->p<=r/\r<p+(d::ds).length:=fun ps h=>by
    have:=Iy h;simp;omega
   cases d with
   | mp hs=>
     cases ps with
     |nil=>simp[ic]at h
     | cons q' ps=>
       simp only[ic]at h;split at h
       ·simp;omega
       ·exact step _ h
   |_=>exact step ps h
theorem pJ:∀ {ds:List DV} {vs:List Value} {ps:List fH} {p r:Nat} {q:fH},fT w ok ds vs ps->(ic p ds ps r=some q↔∃ k:Nat,(mpL p ds)[k]?=some (r,q.hs)/\ps[k]?=some q)
 |[],vs,ps,p,r,q,ha=>by simp[ic,mpL]
 | d::ds,vs,ps,p,r,q,ha=>by
   have mge:∀ {ds:List DV} {p k:Nat} {x:Nat×List H},(mpL p ds)[k]?=some x->p<=x.1:=by
    intro ds
    induction ds with
    |nil=>intro p k x h;simp[mpL]at h
    | cons d ds ih=>
      intro p k x h;cases d with
      | mp hs=>
        simp only[mpL]at h;cases k with
        |zero=>simp at h;subst h;exact Zf _
        |succ k=>simp at h;have:=ih h;omega
      |_=>have:=ih (p:=p+1) h;omega
   cases d with
   | mp hs=>
     obtain⟨p0,ps',vs',rfl,rfl,e,ha⟩:=ha;have ih:=pJ (p:=p+1) (r:=r) (q:=q) ha;simp only[ic,mpL]
     constructor
     ·intro h;split at h
      ·rename_i c;cases h;exact⟨0,by simp[c,e],by simp⟩
      ·obtain⟨k,h1,h2⟩:=ih.1 h;exact⟨k+1,by simpa using h1,by simpa using h2⟩
     ·rintro⟨k,h1,h2⟩;cases k with
      |zero=>simp at h1 h2;rw[VN h1.1.symm];rw[h2]
      | succ k=>
        simp at h1 h2;have:=mge h1;rw[VO (by simp only at this;omega)];exact ih.2 ⟨k,h1,h2⟩
   |one l=>obtain⟨v,vs',S,rfl,_,_,ha⟩:=ha;exact pJ (p:=p+1) ha
   |agg l=>obtain⟨v,vs',S,rfl,_,_,ha⟩:=ha;exact pJ (p:=p+1) ha
   |ptr l=>obtain⟨v,vs',S,rfl,_,_,ha⟩:=ha;exact pJ (p:=p+1) ha
   |fn f l=>obtain⟨v,vs',S,rfl,_,_,ha⟩:=ha;exact pJ (p:=p+1) ha
theorem pG:∀ {ds:List DV} {vs:List Value} {ps:List fH} (p:Nat),fT w ok ds vs ps->
 (∀ r,get (fj p ds) (.meta_ r)=(ic p ds ps r).map fun q=>.m q.hs.length true)/\
 (∀ r j,get (fj p ds) (.leaf r j)=(ic p ds ps r).bind fun q=>((DX r 0 q.hs)[j]?).map .h)/\
 (∀ d x,get (fj p ds) (.reg d)=some x->∃ i,d=p+i/\i<vs.length/\((∃ q,ic p ds ps d=some q/\x=.r (.one (.pt d 0))/\vs[i]?=some (.pointer (some ⟨q.b,q.off,none⟩)))\/(∃ dv v S,x=.r (lR dv)/\vs[i]?=some v/\mz w dv v S/\∀ b∈S,ok b)))
 | [],vs,ps,p,ha=>by
   refine⟨fun r=>rfl,fun r j=>rfl,fun d x h=>by cases h⟩
 | d::ds,vs,ps,p,ha=>by
   have other:∀ (v:Value) (vs':List Value) (S:List Nat),vs=v::vs'->mz w d v S->(∀ b∈S,ok b)->fT w ok ds vs' ps->(∀ r,ic p (d::ds) ps r=ic (p+1) ds ps r)->fj p (d::ds)=.reg p (lR d)::fj (p+1) ds->
    (∀ r,get (fj p (d::ds)) (.meta_ r)=(ic p (d::ds) ps r).map fun q=>.m q.hs.length true)/\
    (∀ r j,get (fj p (d::ds)) (.leaf r j)=(ic p (d::ds) ps r).bind fun q=>((DX r 0 q.hs)[j]?).map .h)/\
    (∀ d' x,get (fj p (d::ds)) (.reg d')=some x->∃ i,d'=p+i/\i<vs.length/\((∃ q,ic p (d::ds) ps d'=some q/\x=.r (.one (.pt d' 0))/\vs[i]?=some (.pointer (some ⟨q.b,q.off,none⟩)))\/(∃ dv v S,x=.r (lR dv)/\vs[i]?=some v/\mz w dv v S/\∀ b∈S,ok b))):=by
    intro v vs' S e h1 h2 h3 h4 h5;subst e;obtain⟨i1,i2,i3⟩:=pG (p+1) h3;rw[h5];refine⟨fun r=>by rw[h4, <-i1];simp[get,W.app],fun r j=>by rw[h4, <-i2];simp[get,W.app],fun d' x hx=>?_⟩;simp only[get,W.app]at hx;split at hx
    ·rename_i c;cases c;cases hx;exact⟨0,rfl,by simp,.inr ⟨d,v,S,rfl,rfl,h1,h2⟩⟩
    ·obtain⟨i,e1,e2,e3⟩:=i3 d' x hx;refine⟨i+1,by omega,by simpa using e2,?_⟩;rw[h4];rcases e3 with⟨q,k1,k2,k3⟩|⟨dv,v',S',k1,k2,k3,k4⟩;exact .inl ⟨q,k1,k2,by simpa using k3⟩;exact .inr ⟨dv,v',S',k1,by simpa using k2,k3,k4⟩
   cases d with
   | mp hs=>
     obtain⟨q,ps',vs',rfl,rfl,e,ha⟩:=ha;obtain⟨i1,i2,i3⟩:=pG (p+1) ha;subst e;have hp:ic (p+1) ds ps' p=none:=by
      cases h:ic (p+1) ds ps' p with
      |none=>rfl
      |some q=>have:=Iy h;omega
     refine⟨fun r=>?_,fun r j=>?_,fun d' x hx=>?_⟩
     ·simp only[fj,get,W.app,ic];by_cases c:r=p
      ·subst c;simp[vJ]
      ·simp[c,i1]
     ·simp only[fj,get,W.app,ic];by_cases c:r=p
      ·subst c;simp
      ·simp[c,i2]
     ·simp only[fj,get,W.app]at hx;split at hx
      ·rename_i c;cases c;cases hx;exact⟨0,rfl,by simp,.inl ⟨q,by simp[ic],rfl,rfl⟩⟩
      ·rename_i c;obtain⟨i,e1,e2,e3⟩:=i3 d' x hx;refine⟨i+1,by omega,by simpa using e2,?_⟩;have hne:d'≠p:=by omega
       rcases e3 with⟨q',k1,k2,k3⟩|⟨dv,v',S',k1,k2,k3,k4⟩;exact .inl ⟨q',by simp only[ic];rw[VO hne];exact k1,k2,by simpa using k3⟩;exact .inr ⟨dv,v',S',k1,by simpa using k2,k3,k4⟩
   |one l=>obtain⟨v,vs',S,e,h1,h2,h3⟩:=ha;exact other v vs' S e h1 h2 h3 (fun _=>rfl) rfl
   |agg l=>obtain⟨v,vs',S,e,h1,h2,h3⟩:=ha;exact other v vs' S e h1 h2 h3 (fun _=>rfl) rfl
   |ptr l=>obtain⟨v,vs',S,e,h1,h2,h3⟩:=ha;exact other v vs' S e h1 h2 h3 (fun _=>rfl) rfl
   |fn f l=>obtain⟨v,vs',S,e,h1,h2,h3⟩:=ha;exact other v vs' S e h1 h2 h3 (fun _=>rfl) rfl
open Classical in
theorem Fu (n:Nat)(w:World)(ds:List DV)(vs:List Value)(ps:List fH)(h:Nu w ds vs ps)(hn:ds.length<=n)(anc:Nat->Value)(hanc:∀ r q j l,ic 0 ds ps r=some q->q.hs[j]?=some (.ro l)->anc (r*1000+j)=q.val j):
 ∃ G,ay ⟨n,w,fun b=>¬ kK ps b/\¬ oV ps b,anc,fun r=>(ic 0 ds ps r).map fun q=>(q.b,q.off),fun r=>((ic 0 ds ps r).map fun q=>q.hs.length).getD 0,fun _=>True⟩ G (get (fj 0 ds)) {tmps:=vs.toArray++YQ (n-vs.toArray.size) undef,defers:=[]} w:=by
 have hl:=h.args.length;obtain⟨i1,i2,i3⟩:=pG 0 h.args;have ix:=fun {r q}=>pJ (p:=0) (r:=r) (q:=q) h.args
 have mem:∀ {r q},ic 0 ds ps r=some q->q∈ps:=fun e=>by
  obtain⟨k,_,e2⟩:=ix.1 e;exact Zx e2
 have isO:∀ b,kK ps b->∃ x:Nat×Nat,∃ q l,ic 0 ds ps x.1=some q/\q.hs[x.2]?=some (.own l)/\b∈q.fp x.2:=by
  rintro b ⟨q,hq,j,l,h1,h2⟩;obtain⟨k,hk⟩:=Yu hq;have hlen:∀ {ds:List DV} {vs:List Value} {ps:List fH} {p:Nat},fT w (fun b=>¬ kK ps b/\¬ oV ps b) ds vs ps->True:=fun _=>trivial
  have key:∀ (ok:Nat->Prop) (ds:List DV) (vs:List Value) (ps:List fH) (p k:Nat) (q:fH),fT w ok ds vs ps->ps[k]?=some q->∃ r,(mpL p ds)[k]?=some (r,q.hs):=by
   intro ok ds
   induction ds with
   |nil=>intro vs ps p k q h e;simp only[fT]at h;rw[h.2]at e;simp at e
   | cons d ds ih=>
     intro vs ps p k q h e;cases d with
     | mp hs=>
       obtain⟨p0,ps',vs',rfl,rfl,e0,h⟩:=h;cases k with
       |zero=>simp at e;subst e;exact⟨p,by simp[mpL,e0]⟩
       |succ k=>simp at e;obtain⟨r,hr⟩:=ih vs' ps' (p+1) k q h e;exact⟨r,by simpa[mpL]using hr⟩
     |one l=>obtain⟨v,vs',S,rfl,_,_,h⟩:=h;exact ih vs' ps (p+1) k q h e
     |agg l=>obtain⟨v,vs',S,rfl,_,_,h⟩:=h;exact ih vs' ps (p+1) k q h e
     |ptr l=>obtain⟨v,vs',S,rfl,_,_,h⟩:=h;exact ih vs' ps (p+1) k q h e
     |fn f l=>obtain⟨v,vs',S,rfl,_,_,h⟩:=h;exact ih vs' ps (p+1) k q h e
  obtain⟨r,hr⟩:=key _ ds vs ps 0 k q h.args hk;exact⟨(r,j),q,l,ix.2 ⟨k,hr,hk⟩,h1,h2⟩
 let G:Gh:={
  loc:=fun r=>(ic 0 ds ps r).map fun q=>(q.b,q.off)
  val:=fun r j=>((ic 0 ds ps r).map fun q=>q.val j).getD undef
  fp:=fun r j=>((ic 0 ds ps r).map fun q=>q.fp j).getD []
  ow:=fun b=>if ho:kK ps b then some (.leaf (isO b ho).choose.1 (isO b ho).choose.2)else if oV ps b then some (.box b)else if b<w.heap.size then some .ro else none
  lead:=fun r=>((ic 0 ds ps r).map fun q=>q.b).getD 0}
 have ixne:∀ {r r' q q'},ic 0 ds ps r=some q->ic 0 ds ps r'=some q'->r≠r'->∃ k k':Nat,k≠k'/\ps[k]?=some q/\ps[k']?=some q':=by
  intro r r' q q' e1 e2 hne;obtain⟨k,a1,a2⟩:=ix.1 e1;obtain⟨k',b1,b2⟩:=ix.1 e2;refine⟨k,k',fun e=>?_,a2,b2⟩;subst e;have h:=a1.symm.trans b1;simp at h;exact hne h.1
 have owO:∀ r j q l,ic 0 ds ps r=some q->q.hs[j]?=some (.own l)->∀ b∈q.fp j,G.ow b=some (.leaf r j):=by
  intro r j q l e1 e2 b hb;have ho:kK ps b:=⟨q,mem e1,j,l,e2,hb⟩;simp only[G,dif_pos ho];obtain⟨q',l',f1,f2,f3⟩:=(isO b ho).choose_spec;generalize(isO b ho).choose=x at*;by_cases c:x.1=r
  ·rw[c,e1]at f1;cases f1;by_cases cj:x.2=j
   ·rw[c,cj]
   ·obtain⟨k,_,hk⟩:=ix.1 e1;exact absurd hb (h.disj k _ k j q q l' l hk hk f2 e2 (fun e=>cj (by cases e;rfl)) b f3)
  ·obtain⟨k,k',hne,hk,hk'⟩:=ixne f1 e1 c;exact absurd hb (h.disj k _ k' j q' q l' l hk hk' f2 e2 (fun e=>hne (by cases e;rfl)) b f3)
 have owP:∀ b,oV ps b->G.ow b=some (.box b):=by
  intro b hb;simp only[G,dif_neg (h.box b hb),VN hb]
 have owR:∀ b,b<w.heap.size->¬ kK ps b/\¬ oV ps b->G.ow b=some .ro:=by
  intro b hb ⟨h1,h2⟩;simp only[G,dif_neg h1,VO h2,VN hb]
 have cellq:∀ {r q},ic 0 ds ps r=some q->∃ cur ty,w.heap[q.b]?=some (.cells cur ty (0,0))/\q.off+q.hs.length<=cur.size/\∀ j,j<q.hs.length->cur[q.off+j]?=some (q.val j):=fun e=>h.cell _ (mem e)
 refine⟨G,rfl,by simp;omega,?_,?_,?_,?_,?_,?_,Same.refl _ _,?_,?_,?_,?_,?_,?_,fun _ _=>trivial⟩
 ·intro d x hx;obtain⟨i,rfl,e2,e3⟩:=i3 d x hx;have hv:∀ v,vs[i]?=some v->(vs.toArray++YQ (n-vs.toArray.size) undef).getD (0+i) undef=v:=by
   intro v hv;simp only[Yx,ZP];rw[Array.getElem?_append_left (by simpa using e2)];simp[hv]
  refine⟨by show 0+i<n;omega,?_⟩;rcases e3 with⟨q,k1,k2,k3⟩|⟨dv,v,S,k1,k2,k3,k4⟩
  ·refine⟨_,k2,?_⟩;simp only[cL,gD];exact⟨q.b,q.off,by simp only[G,k1,Ym],hv _ k3⟩
  ·refine⟨_,k1,?_⟩;simp only;rw[hv _ k2];have tok:∀ b∈S,b<w.heap.size->G.ow b=some .ro:=fun b hb hlt=>owR b hlt (k4 b hb)
   cases dv with
   | one l=>
     simp only[lR,cL];have:=nY (γ:=gl (get (fj 0 ds))) (G:=G) [l] [v] S (by simp only[ak];exact⟨v,[],S,[],rfl,k3,⟨rfl,rfl⟩,by simp⟩) (fun b hb=>tok b hb (bN.lt _ _ _ k3 b hb));simp only[ZU,List.map_nil,bS]at this;obtain⟨v',vs'',e,h3,_⟩:=this;cases e;exact h3
   | agg lls=>
     obtain⟨us,e,h1⟩:=k3;simp only[lR,cL];exact⟨us,e,nY _ _ S h1 (fun b hb=>tok b hb (ak.lt _ _ _ h1 b hb))⟩
   | ptr rec=>
     obtain⟨b,off,cur,ty,fz,S',e1,e2,e3,e4,rfl⟩:=k3;simp only[lR,cL];exact⟨b,off,cur,ty,fz,S',e1,e2,tok b (by simp) (Zz.1 e2).1,e3,e4,fun c hc=>tok c (by simp[hc]) (ak.lt _ _ _ e4 c hc)⟩
   | fn f caps=>
     obtain⟨us,e,h1⟩:=k3;simp only[lR,cL];refine⟨us,e,?_⟩;have key:∀ (caps:af) (us:List Value) (S':List Nat),ig w caps us S'->(∀ b∈S',b∈S)->dY G w (caps.map fun rec=>.rp rec 0) us:=by
      intro caps
      induction caps with
      |nil=>intro us S' h _;simp only[ig]at h;simp[dY,h.1]
      | cons r rs ih=>
        intro us S' h hsub;simp only[ig]at h;obtain⟨v,vs',S1,S2,rfl,q1,q2,rfl⟩:=h;obtain⟨b,off,cur,ty,fz,S3,e1,e2,e3,e4,rfl⟩:=q1;exact⟨v,vs',rfl,⟨b,off,cur,ty,fz,S3,e1,e2,tok b (hsub b (by simp)) (Zz.1 e2).1,e3,e4,fun c hc=>tok c (hsub c (by simp[hc])) (ak.lt _ _ _ e4 c hc)⟩,ih _ _ q2 (fun b hb=>hsub b (by simp[hb]))⟩
     exact key caps us S h1 (fun b hb=>hb)
   |mp hs=>exact k3.elim
 ·intro r k hk;rw[i1]at hk;cases e:ic 0 ds ps r with
  |none=>simp[e]at hk
  | some q=>
    simp[e]at hk;subst hk;obtain⟨cur,ty,f1,f2,f3⟩:=cellq e;refine⟨q.b,q.off,cur,ty,by simp[G,e],?_,f1,f2,fun j hj=>by simp[G,e,f3 j hj]⟩;rw[owP q.b ⟨q,mem e,rfl⟩];simp[G,e]
 ·intro r j x hx;rw[i2]at hx;cases e:ic 0 ds ps r with
  |none=>simp[e]at hx
  | some q=>
    simp only[e,YF,Zy]at hx;obtain⟨hv,e1,rfl⟩:=hx;obtain⟨c,k1,k2,k3,k4,k5,k6⟩:=Co e1;refine⟨hv,q.hs.length,true,rfl,by rw[i1,e];rfl,(ZB.1 k1).1,?_⟩;unfold eh;rw[k4];cases c with
    | own l=>
      obtain⟨m1,m2,m3⟩:=h.own q (mem e) j l k1;simp only[G,e,Ym,Z5];exact⟨m1,m2,fun b hb=>⟨owO r j q l e k1 b hb,m3 b hb⟩⟩
    | ro l=>
      obtain⟨m1,m2⟩:=h.ro q (mem e) j l k1;simp only[G,e,Ym,Z5];exact⟨q.fp j,m1,fun b hb=>owR b (bN.lt _ _ _ m1 b hb) (m2 b hb)⟩
    |gone=>exact absurd k1 (h.gone q (mem e) j)
 ·intro r x hx;rw[i1]at hx;cases e:ic 0 ds ps r with
  |none=>simp[e]at hx
  |some q=>simp[e]at hx;exact⟨_,_,hx.symm⟩
 ·intro r b hb;cases e:ic 0 ds ps r with
  |none=>simp[G,e]at hb
  |some q=>exact⟨q.hs.length,by rw[i1,e];rfl⟩
 ·intro b t hb;simp only[G]at hb;split at hb
  ·rename_i ho;obtain⟨q,hq,j,l,e1,e2⟩:=ho;exact bN.lt _ _ _ (h.own q hq j l e1).1 b e2
  ·split at hb
   ·rename_i hp;obtain⟨q,hq,rfl⟩:=hp;obtain⟨cur,ty,f1,_⟩:=h.cell q hq;exact(Zz.1 f1).1
   ·split at hb
    ·rename_i c;exact c
    ·cases hb
 ·intro b hb hf;exact .inr (owR b hb hf)
 ·intro r j hv e i hi hl;rw[au,i2]at e;cases e0:ic 0 ds ps r with
  |none=>simp[e0]at e
  | some q=>
    simp only[e0,YF,Zy]at e;obtain⟨hv',e1,e2⟩:=e;cases e2;obtain⟨c,k1,k2,k3,k4,k5,k6⟩:=Co e1;obtain⟨l,hl⟩:=hl;rw[k4]at hl;cases c with
    |own l'=>rw[k5 l' rfl]at hi;cases hi
    | ro l'=>
      rw[k6 (by simp)]at hi;cases hi;rw[ZP];show _=anc _;rw[hanc r q j l' e0 k1];simp[G,e0]
    |gone=>rcases hl with e|e<;>cases e
 ·intro r x hx;cases e:ic 0 ds ps r with
  |none=>simp[e]at hx
  |some q=>exact⟨hx,by rw[i1,e];simp[e]⟩
 ·intro r b off hx;cases e:ic 0 ds ps r with
  |none=>simp[e]at hx
  | some q=>
    simp[e]at hx;obtain⟨rfl,rfl⟩:=hx;obtain⟨cur,ty,f1,f2,f3⟩:=cellq e;exact⟨cur,cur,ty,f1,f1,rfl,fun _ _=>rfl⟩
 ·intro r1 r2 k1 k2 b o1 o2 hne h1 h2 q1 q2;rw[i1]at h1 h2;cases e1:ic 0 ds ps r1 with
  |none=>simp[e1]at h1
  | some a1=>
    cases e2:ic 0 ds ps r2 with
    |none=>simp[e2]at h2
    | some a2=>
      simp[e1]at h1;simp[e2]at h2;simp[G,e1]at q1;simp[G,e2]at q2;obtain⟨rfl,rfl⟩:=q1;obtain⟨q2,rfl⟩:=q2;obtain⟨k,k',hk,m1,m2⟩:=ixne e1 e2 hne;have:=h.sep k k' a1 a2 hk m1 m2 q2.symm;omega
 ·intro r b off hx ha;cases e:ic 0 ds ps r with
  |none=>simp[G,e]at hx
  |some q=>simp[e]at ha
end
end Go.V
namespace Go.V
def x9 {α:Type}(pr:(Unit->Prop)->Prop)(r:Nat):Nat->List H->(List H->Rd α)->Rd α
 |_,[],k=>k []
 | j,h0::hs,k=>gC r j fun h=>match h.c with
   | .own l=>x9 pr r (j+1) hs fun cs=>k (.own l::cs)
   | .ro l=>match h0 with
     | .ro l0=>match h.org with
       |some i=>if Z3 i (r*1000+j)then .req (pr fun _=>l=l0) (x9 pr r (j+1) hs fun cs=>k (.ro l0::cs))else .fail
       |none=>.fail
     |_=>.fail
   | .gone=>.fail
def Is {α:Type}(pr:(Unit->Prop)->Prop)(os:Nat->List H):List (Nat×List H)->Nat->Rd α->Rd α
 |[],_,k=>k
 |(r,hs)::m,i,k=>x9 pr r 0 hs fun cs=>.req (pr fun _=>cs=os i) (Is pr os m (i+1) k)
def E5 (T:Am)(O:F8)(ts:List TypeId)(rvs:List ResultVar)(m:List (Nat×List H))(σ:VS)(res:List DV)(os:Nat->List H):Prop:=
 (zu T O ts rvs fun ds srcs=>if bp srcs&&srcs.all (fun s=>m.all fun q=> !(s.1.beq q.1))then .req (O.pr fun _=>ds=res) (Is O.pr os m 0 (.ret ()))else .fail).wpU (get σ) [] fun _ _=>True
def NW (T:Am)(O:F8)(ts:List TypeId)(rvs:List ResultVar)(m:List (Nat×List H))(res:List DV)(os:Nat->List H):Ex->VS->Prop
 | .normal,σ=>E5 T O ts rvs m σ res os
 | .ret,σ=>E5 T O ts rvs m σ res os
 | .exit _,_=>False
section
variable {P: Program} {T: Am} {cx: Cx} {G: Gh} {g: Gm} {a: Act} {w: World}
theorem NN (hT:bF P T){Φ:Type}{F0:Φ}{ctF:Φ->CT}{mtF:Φ->MT}{ptF:Φ->PT}{ntF:Φ->NT}{otF:Φ->OT}(hct:Aq P (ctF F0))(hmt:Fb P (mtF F0))(hpt:Fg P (ptF F0))(hnw:Fe P (ntF F0))(hot:Ff P (otF F0))(hm:P.follows .mixedOrders=true){f:FuncId}{fn:Func}{ds res:List DV}(n:Nat)(c:Code)(ts:List TypeId)(rvs:List ResultVar) 
 (hf:P.funcs[f]?=some fn) (hb:fn.body=some c) (hnt:fn.ntmps=n) (hts:fn.resultTypes.toList=ts) (hrv:fn.results.toList=rvs) (hn:YZ ds.length n=true)
 (h:∀ O r F,O=am->r=res->F=F0->ou T O ⟨ctF F,mtF F,ptF F,ntF F,otF F⟩ n [] c (RD T O ts rvs r) (eK 0 ds)):JF P f ds res:=by
 subst hnt hts hrv;replace h:=h am res F0 rfl rfl rfl;replace hn:=Xg hn;intro w vs hargs;refine calls_of_wp hf hb ?_;refine Y8 ?_ (eE (cx:=⟨fn.ntmps,w,fun _=>True,fun _=>undef,fun _=>none,fun _=>0,fun _=>True⟩) hT (ct:=⟨ctF F0,mtF F0,ptF F0,ntF F0,otF F0⟩) ⟨hct,hmt,hpt,hnw,hot⟩ hm rfl (an:=[]) (fun r x e=>by cases e) c _ _ _ w h (HE fn.ntmps w ds vs hargs hn));rintro e a' w' ⟨ex,σ',rfl,hq',G,hS⟩;have hq:E4 T am fn.resultTypes.toList fn.results.toList σ' res:=by
  cases ex with
  |normal=>exact hq'
  |ret=>exact hq'
  |exit i=>exact hq'.elim
 have hex:ex=.normal\/ex=.ret:=by
  cases ex with
  |normal=>exact .inl rfl
  |ret=>exact .inr rfl
  |exit i=>exact hq'.elim
 unfold E4 at hq;obtain⟨ls,u,t,h1,_⟩:=Rd.wpU_runs hq;obtain⟨ds',vs',srcs,S,ls',k1,k2,k3,k4,k5⟩:=nV hS _ _ _ _ _ (pN hT (fun _ _ _ h=>h) h1);split at k5
 case isFalse=>exact k5.elim
 rename_i hd;simp only[Rd.Runs]at k5;have hres0:ds'=res:=k5.1;subst hres0;obtain⟨v,hrun,hres⟩:=yg k1 k2;have hfresh:∀ b∈S,w.heap.size<=b/\eX w' b:=by
  intro b hb;obtain⟨u,r,j,m1,m2⟩:=k4 b hb;refine⟨?_,u⟩;rcases Z7 b w.heap.size with hlt|hge
  ·rcases hS.frow b hlt trivial with e|e<;>rw[m2]at e<;>cases e
  ·exact hge
 have fin:a'.defers=[]/\∃ v,(results fn a'.tmps).run P w'=.ok v w'/\∃ v' S,Wv v=.returned v'/\gF w' ds' v' S/\S.Nodup/\(∀ b∈S,w.heap.size<=b/\eX w' b)/\Same (fun _=>True) w w':=
  ⟨hS.defers,_,hrun,_,S,rfl,hres,k3 hd,hfresh,hS.frame⟩
 rcases hex with rfl|rfl;exact fin;exact fin
theorem nP {α:Type}{r:Nat}:∀ (hs:List H) (j:Nat) (k:List H->Rd α) (ls:List Loc) (out:α),(x9 lc r j hs k).Runs g ls out->
 ∃ cs ls',(k cs).Runs g ls' out/\cs.length=hs.length/\∀ (i:Nat) c,cs[i]?=some c->∃ hv,g (.leaf r (j+i))=some (.h hv)/\hv.c=c/\(match c with
  | .own _=>True
  | .ro l=>hs[i]?=some (.ro l)/\hv.org=some (r*1000+(j+i))
  | .gone=>False)
 |[],j,k,ls,out,h=>⟨[],ls,h,rfl,fun i c e=>by simp at e⟩
 | h0::hs,j,k,ls,out,h=>by
   obtain⟨hv,ls2,_,q2,hk⟩:=bA (k:=fun hh=>match hh.c with
    | .own l=>x9 lc r (j+1) hs fun cs=>k (.own l::cs)
    | .ro l=>match(generalizing:=false) h0 with
      | .ro l0=>match hh.org with
        |some i=>if Z3 i (r*1000+j)then .req (lc fun _=>l=l0) (x9 lc r (j+1) hs fun cs=>k (.ro l0::cs))else .fail
        |none=>.fail
      |_=>.fail
    | .gone=>.fail) h
   cases hc:hv.c with
   |gone=>simp[hc,Rd.Runs]at hk
   | own l=>
     simp only[hc]at hk;obtain⟨cs,ls3,e1,e2,e3⟩:=nP hs (j+1) _ _ _ hk;refine⟨_,ls3,e1,by simp[e2],fun i c e=>?_⟩;cases i with
     |zero=>simp at e;subst e;exact⟨hv,q2,hc,trivial⟩
     | succ i=>
       simp at e;obtain⟨hv',k1,k2,k3⟩:=e3 i c e;refine⟨hv',by rw[show j+(i+1)=j+1+i from by omega];exact k1,k2,?_⟩;cases c with
       |own l=>trivial
       |ro l=>exact⟨by simpa using k3.1,by rw[show j+(i+1)=j+1+i from by omega];exact k3.2⟩
       |gone=>exact k3
   | ro l=>
     simp only[hc]at hk;cases h0 with
     |own l0=>exact hk.elim
     |gone=>exact hk.elim
     | ro l0=>
       simp only at hk;cases ho:hv.org with
       |none=>simp[ho,Rd.Runs]at hk
       | some i0=>
         simp only[ho]at hk;split at hk
         ·rename_i hb;have hi:=Yt hb;obtain⟨hl,hk⟩:=hk;have hl:l=l0:=hl;subst hl hi;obtain⟨cs,ls3,e1,e2,e3⟩:=nP hs (j+1) _ _ _ hk;refine⟨_,ls3,e1,by simp[e2],fun i c e=>?_⟩;cases i with
          |zero=>simp at e;subst e;exact⟨hv,q2,hc,by simp,ho⟩
          | succ i=>
            simp at e;obtain⟨hv',k1,k2,k3⟩:=e3 i c e;refine⟨hv',by rw[show j+(i+1)=j+1+i from by omega];exact k1,k2,?_⟩;cases c with
            |own l=>trivial
            |ro l=>exact⟨by simpa using k3.1,by rw[show j+(i+1)=j+1+i from by omega];exact k3.2⟩
            |gone=>exact k3
         ·exact hk.elim
theorem sY {α:Type}{os:Nat->List H}:∀ (m:List (Nat×List H)) (i:Nat) (k:Rd α) (ls:List Loc) (out:α),(Is lc os m i k).Runs g ls out->
 ∀ (n r:Nat) hs,m[n]?=some (r,hs)->(os (i+n)).length=hs.length/\∀ (j:Nat) c,(os (i+n))[j]?=some c->∃ hv,g (.leaf r j)=some (.h hv)/\hv.c=c/\(match c with
  | .own _=>True
  | .ro l=>hs[j]?=some (.ro l)/\hv.org=some (r*1000+j)
  | .gone=>False)
 |[],i,k,ls,out,h=>fun n r hs e=>by simp at e
 | (r0,hs0)::m,i,k,ls,out,h=>by
  obtain⟨cs,ls2,h1,h2,h3⟩:=nP _ _ _ _ _ h;obtain⟨he,h1⟩:=h1;have he:cs=os i:=he;intro n r hs e;cases n with
  | zero=>
    simp at e;obtain⟨rfl,rfl⟩:=e;rw[Yl, <-he];refine⟨h2,fun j c hc=>?_⟩;have:=h3 j c hc
    simpa using this
  | succ n=>
    simp at e;have:=sY m (i+1) k _ _ h1 n r hs e;rw[show i+(n+1)=i+1+n from by omega];exact this
theorem nN {w:World}{ok:Nat->Prop}:∀ {ds:List DV} {vs:List Value} {ps:List fH} {p k:Nat} {q:fH},fT w ok ds vs ps->ps[k]?=some q->∃ r,(mpL p ds)[k]?=some (r,q.hs)
 |[],vs,ps,p,k,q,h,e=>by simp only[fT]at h;rw[h.2]at e;simp at e
 | d::ds,vs,ps,p,k,q,h,e=>by
   cases d with
   | mp hs=>
     obtain⟨p0,ps',vs',rfl,rfl,e0,h⟩:=h;cases k with
     |zero=>simp at e;subst e;exact⟨p,by simp[mpL,e0]⟩
     |succ k=>simp at e;obtain⟨r,hr⟩:=nN (p:=p+1) h e;exact⟨r,by simpa[mpL]using hr⟩
   |one l=>obtain⟨v,vs',S,rfl,_,_,h⟩:=h;exact nN (p:=p+1) h e
   |agg l=>obtain⟨v,vs',S,rfl,_,_,h⟩:=h;exact nN (p:=p+1) h e
   |ptr l=>obtain⟨v,vs',S,rfl,_,_,h⟩:=h;exact nN (p:=p+1) h e
   |fn f l=>obtain⟨v,vs',S,rfl,_,_,h⟩:=h;exact nN (p:=p+1) h e
open Classical in
theorem Ew (hT:bF P T){Φ:Type}{F0:Φ}{ctF:Φ->CT}{mtF:Φ->MT}{ptF:Φ->PT}{ntF:Φ->NT}{otF:Φ->OT}(hct:Aq P (ctF F0))(hmt:Fb P (mtF F0))(hpt:Fg P (ptF F0))(hnw:Fe P (ntF F0))(hot:Ff P (otF F0))(hm:P.follows .mixedOrders=true){f:FuncId}{fn:Func}{ds res:List DV}{outs:List (List H)}(n:Nat)(c:Code)(ts:List TypeId)(rvs:List ResultVar) 
 (hf:P.funcs[f]?=some fn) (hb:fn.body=some c) (hnt:fn.ntmps=n) (hts:fn.resultTypes.toList=ts) (hrv:fn.results.toList=rvs) (hn:YZ ds.length n=true) (hlo:(mpL 0 ds).length=outs.length) (hl0:(mpL 0 ds).all (fun q=>q.2.length.ble 999)=true)
 (h:∀ O r os F,O=am->r=res->os=(fun i=>outs.getD i [])->F=F0->ou T O ⟨ctF F,mtF F,ptF F,ntF F,otF F⟩ n ((mpL 0 ds).map (·.1)) c (NW T O ts rvs (mpL 0 ds) r os) (fj 0 ds)):yt P f ds outs res:=by
 subst hnt hts hrv;replace h:=h am res _ F0 rfl rfl rfl rfl;replace hn:=Xg hn;intro w vs ps hpre;have ix:=fun {r q}=>pJ (p:=0) (r:=r) (q:=q) hpre.args
 have hlt:∀ {r q},ic 0 ds ps r=some q->q.hs.length<=999:=by
  intro r q e;obtain⟨k,e1,_⟩:=ix.1 e;have:=Yi.1 hl0 _ (Zx e1);exact Xg this
 let anc:Nat->Value:=fun i=>((ic 0 ds ps (i/1000)).map fun q=>q.val (i%1000)).getD undef
 have hanc:∀ r q j l,ic 0 ds ps r=some q->q.hs[j]?=some (.ro l)->anc (r*1000+j)=q.val j:=by
  intro r q j l e e1;have h1:=(ZB.1 e1).1;have h2:=hlt e;have h3:(r*1000+j)/1000=r:=by omega
  have h4:(r*1000+j)%1000=j:=by omega
  simp only[anc,h3,h4,e,Ym,Z5]
 refine calls_of_wp hf hb ?_;have hini:=Fu fn.ntmps w ds vs ps hpre hn anc hanc;refine Y8 ?_ (eE (cx:=⟨fn.ntmps,w,fun b=>¬ kK ps b/\¬ oV ps b,anc,fun r=>(ic 0 ds ps r).map fun(q:fH)=>(q.b,q.off),fun r=>((ic 0 ds ps r).map fun(q:fH)=>q.hs.length).getD 0,fun _=>True⟩) hT (ct:=⟨ctF F0,mtF F0,ptF F0,ntF F0,otF F0⟩) ⟨hct,hmt,hpt,hnw,hot⟩ hm rfl (an:=(mpL 0 ds).map (·.1)) (fun r x e=>by
  cases e0:ic 0 ds ps r with
  |none=>simp[e0]at e
  |some q=>obtain⟨k,e1,_⟩:=ix.1 e0;exact ZR.2 ⟨_,Zx e1,rfl⟩) c _ _ _ w h hini)
 rintro e a' w' ⟨ex,σ',rfl,hq',G,hS⟩;have hq:E5 T am fn.resultTypes.toList fn.results.toList (mpL 0 ds) σ' res (fun i=>outs.getD i []):=by
  cases ex with
  |normal=>exact hq'
  |ret=>exact hq'
  |exit i=>exact hq'.elim
 have hex:ex=.normal\/ex=.ret:=by
  cases ex with
  |normal=>exact .inl rfl
  |ret=>exact .inr rfl
  |exit i=>exact hq'.elim
 unfold E5 at hq;obtain⟨ls,u,t,h1,_⟩:=Rd.wpU_runs hq;obtain⟨ds',vs',srcs,Sr,ls',k1,k2,k3,k4,k5⟩:=nV hS _ _ _ _ _ (pN hT (fun _ _ _ h=>h) h1);split at k5
 case isFalse=>exact k5.elim
 rename_i hd;simp only[Zc]at hd;obtain⟨Kr,hd2⟩:=hd;obtain⟨hres0,k5⟩:=k5;have hres0:ds'=res:=hres0;subst hres0;have o1:=sY _ _ _ _ _ k5;obtain⟨v,hrun,hres⟩:=yg k1 k2;have plen:ps.length=outs.length:=by
  rw[<-hlo];have key:∀ {ds:List DV} {vs:List Value} {ps:List fH} {p:Nat} {ok:Nat->Prop},fT w ok ds vs ps->ps.length=(mpL p ds).length:=by
   intro ds
   induction ds with
   |nil=>intro vs ps p ok h;simp only[fT]at h;simp[h.2,mpL]
   | cons d ds ih=>
     intro vs ps p ok h;cases d with
     |mp hs=>obtain⟨p0,ps',vs',rfl,rfl,_,h⟩:=h;simp[mpL,ih (p:=p+1) h]
     |one l=>obtain⟨v,vs',S,rfl,_,_,h⟩:=h;exact ih (p:=p+1) h
     |agg l=>obtain⟨v,vs',S,rfl,_,_,h⟩:=h;exact ih (p:=p+1) h
     |ptr l=>obtain⟨v,vs',S,rfl,_,_,h⟩:=h;exact ih (p:=p+1) h
     |fn f l=>obtain⟨v,vs',S,rfl,_,_,h⟩:=h;exact ih (p:=p+1) h
  exact key hpre.args
 let pst:Nat->fH:=fun k=>
  { b:=(ps.getD k ⟨0,0,[],fun _=>undef,fun _=>[]⟩).b,off:=(ps.getD k ⟨0,0,[],fun _=>undef,fun _=>[]⟩).off,hs:=outs.getD k [],
    val:=fun j=>G.val ((mpL 0 ds).getD k (0,[])).1 j,
    fp:=fun j=>match(outs.getD k [])[j]? with
     |some (.own _)=>G.fp ((mpL 0 ds).getD k (0,[])).1 j
     |_=>(ps.getD k ⟨0,0,[],fun _=>undef,fun _=>[]⟩).fp j}
 have info:∀ (k:Nat) q',((Zj ps.length).map pst)[k]?=some q'->∃ q r,ps[k]?=some q/\(mpL 0 ds)[k]?=some (r,q.hs)/\ic 0 ds ps r=some q/\q'=pst k/\q'.b=q.b/\q'.off=q.off/\outs[k]?=some q'.hs/\q'.hs.length=q.hs.length/\(∀ j,q'.val j=G.val r j)/\(∀ j l,q'.hs[j]?=some (.own l)->q'.fp j=G.fp r j)/\
  ∀ (j:Nat) c,q'.hs[j]?=some c->∃ hv,get σ' (.leaf r j)=some (.h hv)/\hv.c=c/\(match c with
   | .own _=>True
   | .ro l=>q.hs[j]?=some (.ro l)/\hv.org=some (r*1000+j)
   | .gone=>False):=by
  intro k q' e;rw[ZA,Zy]at e;obtain⟨k',e1,rfl⟩:=e;obtain⟨hk,rfl⟩:=ZB.1 e1;simp only[Xm]at hk;simp only[List.getElem_range];have hq:ps[k]?=some ps[k]:=Zs hk;obtain⟨r,hr⟩:=nN (p:=0) hpre.args hq;have hpa:ic 0 ds ps r=some ps[k]:=ix.2 ⟨k,hr,hq⟩;have hout:outs[k]?=some outs[k]:=Zs (by omega);have g1:ps.getD k ⟨0,0,[],fun _=>undef,fun _=>[]⟩=ps[k]:=by simp[ZC,hq]
  have g2:outs.getD k []=outs[k]:=by simp[ZC,hout]
  have g3:(mpL 0 ds).getD k (0,[])=(r,ps[k].hs):=by simp[ZC,hr]
  obtain⟨m1,m2⟩:=o1 k r _ hr;rw[ZP]at m1 m2;refine⟨ps[k],r,hq,hr,hpa,trivial,by simp only[pst,g1],by simp only[pst,g1],by simp only[pst,g2];exact hout,by simp only[pst];exact m1,fun j=>by simp only[pst,g3],fun j l e=>?_,fun j c e=>?_⟩
  ·simp only[pst]at e ⊢;rw[e];simp only[g3]
  ·exact m2 j c e
 have meta_:∀ {r q},ic 0 ds ps r=some q->G.loc r=some (q.b,q.off)/\get σ' (.meta_ r)=some (.m q.hs.length true):=by
  intro r q e;have:=hS.aloc r (q.b,q.off) (by simp[e])
  simpa[e]using this
 have mem:∀ q'∈(Zj ps.length).map pst,∃ k:Nat,((Zj ps.length).map pst)[k]?=some q':=fun q' hq=>by
  obtain⟨k,hk⟩:=Yu hq;exact⟨k,hk⟩
 have ownTok:∀ b,kK ((Zj ps.length).map pst) b->∃ r j q,ic 0 ds ps r=some q/\G.ow b=some (.leaf r j)/\eX w' b:=by
  rintro b ⟨q',hq,j,l,e1,e2⟩;obtain⟨k,hk⟩:=mem q' hq;obtain⟨q,r,i1,i2,i3,i4,i5,i6,i7,i8,i9,i10,i11⟩:=info k q' hk;obtain⟨hv,m1,m2,_⟩:=i11 j _ e1;rw[i10 j l e1]at e2;have:=hS.hok (au.2 m1);simp only[eh,m2]at this;exact⟨r,j,q,i3,this.2.2 b e2⟩
 have ptrTok:∀ b,oV ps b->∃ k,G.ow b=some (.box k):=by
  rintro b ⟨q,hq,rfl⟩;obtain⟨k,hk⟩:=Yu hq;obtain⟨r,hr⟩:=nN (p:=0) hpre.args hk;obtain⟨f1,f2⟩:=meta_ (ix.2 ⟨k,hr,hk⟩);obtain⟨b',off',cur,ty,z1,z2,_⟩:=hS.boxes r _ f2;rw[f1]at z1;cases z1;exact⟨_,z2⟩
 have own:∀ b r j,eX w' b->G.ow b=some (.leaf r j)->eX w' b/\(w.heap.size<=b\/kK ps b):=by
  intro b r j hu ht;refine⟨hu,?_⟩;rcases Z7 b w.heap.size with hlt|hge
  ·by_cases c1:kK ps b;exact .inr c1
   ·by_cases c2:oV ps b
    ·obtain⟨k,hk⟩:=ptrTok b c2;rw[hk]at ht;cases ht
    ·rcases hS.frow b hlt ⟨c1,c2⟩with e|e<;>rw[ht]at e<;>cases e
  ·exact .inl hge
 have post:Gq w ps outs w' ((Zj ps.length).map pst) Sr:=by
  refine⟨by simp,?_,?_,?_,?_,?_,?_,⟨k3 Kr,?_⟩,?_,hS.frame,?_⟩
  ·intro k p p' hp hp';obtain⟨q,r,i1,i2,i3,i4,i5,i6,i7,i8,_⟩:=info k p' hp';rw[hp]at i1;cases i1;exact⟨i5,i6,i7,i8⟩
  ·intro q' hq;obtain⟨k,hk⟩:=mem q' hq;obtain⟨q,r,i1,i2,i3,i4,i5,i6,i7,i8,i9,_⟩:=info k q' hk;obtain⟨f1,f2⟩:=meta_ i3;obtain⟨b',off',cur,ty,z1,z2,z3,z4,z5⟩:=hS.boxes r _ f2;rw[f1]at z1;cases z1;exact⟨cur,ty,by rw[i5];exact z3,fun j hj=>by rw[i6,i9];exact z5 j (by omega)⟩
  ·intro q' hq j l e;obtain⟨k,hk⟩:=mem q' hq;obtain⟨q,r,i1,i2,i3,i4,i5,i6,i7,i8,i9,i10,i11⟩:=info k q' hk;obtain⟨hv,m1,m2,_⟩:=i11 j _ e;have:=hS.hok (au.2 m1);simp only[eh,m2]at this;rw[i9,i10 j l e];exact⟨this.1,this.2.1⟩
  ·intro k p p' j l hp hp' e;obtain⟨q,r,i1,i2,i3,i4,i5,i6,i7,i8,i9,i10,i11⟩:=info k p' hp';rw[hp]at i1;cases i1;obtain⟨hv,m1,m2,m3,m4⟩:=i11 j _ e;refine⟨m3,?_⟩;rw[i9,hS.anc r j hv (au.2 m1) _ m4 ⟨l,.inr m2⟩];exact hanc r p j l i3 m3
  ·intro q' hq j e;obtain⟨k,hk⟩:=mem q' hq;obtain⟨q,r,i1,i2,i3,i4,i5,i6,i7,i8,i9,i10,i11⟩:=info k q' hk;obtain⟨hv,m1,m2,m3⟩:=i11 j _ e;exact m3
  ·intro k j k' j' p p' l l' hp hp' e e' hne b hb hb';obtain⟨q,r,i1,i2,i3,i4,i5,i6,i7,i8,i9,i10,i11⟩:=info k p hp;obtain⟨q2,r2,i1',i2',i3',i4',i5',i6',i7',i8',i9',i10',i11'⟩:=info k' p' hp';obtain⟨hv,m1,m2,_⟩:=i11 j _ e;obtain⟨hv',m1',m2',_⟩:=i11' j' _ e';rw[i10 j l e]at hb;rw[i10' j' l' e']at hb';have t1:=hS.hok (au.2 m1);simp only[eh,m2]at t1;have t2:=hS.hok (au.2 m1');simp only[eh,m2']at t2;have u1:=(t1.2.2 b hb).1;have u2:=(t2.2.2 b hb').1;rw[u1]at u2;cases u2;have hkk:k=k':=by
    rw[i3]at i3';cases i3';by_cases c:k=k';exact c
    ·have:=hpre.sep k k' q q c i1 i1' rfl;have:=(ZB.1 e).1;omega
   subst hkk;exact hne rfl
  ·intro b hb ho;obtain⟨r,j,q,e1,e2,_⟩:=ownTok b ho;obtain⟨_,r',j',m1,m2⟩:=k4 b hb;rw[m2]at e2;cases e2;obtain⟨k,e3,_⟩:=ix.1 e1;have:=Yi.1 (Yi.1 hd2 _ m1) _ (Zx e3);simp at this
  ·intro b hb;rcases hb with hb|hb
   ·obtain⟨hu,r,j,_,m2⟩:=k4 b hb;exact own b r j hu m2
   ·obtain⟨r,j,q,_,m2,hu⟩:=ownTok b hb;exact own b r j hu m2
  ·rintro b ⟨q,hq,rfl⟩;obtain⟨k,hk⟩:=Yu hq;obtain⟨r,hr⟩:=nN (p:=0) hpre.args hk;have hpa:=ix.2 ⟨k,hr,hk⟩;obtain⟨c0,c1,ty,z1,z2,z3,z4⟩:=hS.afr r q.b q.off (by simp[hpa]);refine⟨c0,c1,ty,z1,z2,z3,fun i hi=>z4 i (fun r' off' e=>?_)⟩;cases e0:ic 0 ds ps r' with
   |none=>simp[e0]at e
   | some q2=>
     simp[e0]at e ⊢;obtain⟨e1,rfl⟩:=e;obtain⟨k2,_,hk2⟩:=ix.1 e0;exact hi q2 (Zx hk2) e1
 have fin:a'.defers=[]/\∃ v,(results fn a'.tmps).run P w'=.ok v w'/\∃ v' Sr ps',Wv v=.returned v'/\gF w' ds' v' Sr/\Gq w ps outs w' ps' Sr:=
  ⟨hS.defers,_,hrun,_,Sr,_,rfl,hres,post⟩
 rcases hex with rfl|rfl;exact fin;exact fin
def vU {α:Type}(r:Nat):Nat->Nat->(List H->Rd α)->Rd α
 |_,0,k=>k []
 | j,m+1,k=>gC r j fun h=>match h.c with
   | .own (.v x)=>vU r (j+1) m fun hs=>k (.own (.v x)::hs)
   | .ro l=>vU r (j+1) m fun hs=>k (.ro l::hs)
   |_=>.fail
def E3 (O:F8)(rvs:List ResultVar)(σ:VS)(hs:List H):Prop:=
 match rvs with
 | [.tmp t]=>((BU t fun v=>match v with
    | .one (.pt r 0)=>.get (.meta_ r) fun
      |some (.m k true)=>vU r 0 k fun hs'=>.req (O.pr fun _=>hs'=hs) (.ret ())
      |_=>.fail
    |_=>.fail):Rd Unit).wpU (get σ) [] fun _ _=>True
 |_=>False
def RB (O:F8)(rvs:List ResultVar)(hs:List H):Ex->VS->Prop
 | .normal,σ=>E3 O rvs σ hs
 | .ret,σ=>E3 O rvs σ hs
 | .exit _,_=>False
theorem sU {α:Type}{r:Nat}:∀ (m j:Nat) (k:List H->Rd α) (ls:List Loc) (out:α),(vU r j m k).Runs g ls out->
 ∃ hs ls',(k hs).Runs g ls' out/\hs.length=m/\∀ i h0,hs[i]?=some h0->∃ h,gl g r (j+i)=some h/\((∃ x,h.c=.own (.v x)/\h0=.own (.v x))\/∃ l,h.c=.ro l/\h0=.ro l)
 |0,j,k,ls,out,h=>⟨[],ls,h,rfl,fun i h0 e=>by simp at e⟩
 | m+1,j,k,ls,out,h=>by
   obtain⟨hv,ls1,hg,_,hq⟩:=bA (k:=fun h=>match h.c with
    | .own (.v x)=>vU r (j+1) m fun hs=>k (.own (.v x)::hs)
    | .ro l=>vU r (j+1) m fun hs=>k (.ro l::hs)
    |_=>.fail) h
   have fin:∀ c:H,((∃ x,hv.c=.own (.v x)/\c=.own (.v x))\/∃ l,hv.c=.ro l/\c=.ro l)->(vU r (j+1) m fun hs=>k (c::hs)).Runs g ls1 out->
    ∃ hs ls',(k hs).Runs g ls' out/\hs.length=m+1/\∀ i h0,hs[i]?=some h0->∃ h,gl g r (j+i)=some h/\((∃ x,h.c=.own (.v x)/\h0=.own (.v x))\/∃ l,h.c=.ro l/\h0=.ro l):=by
    intro c hc hq;obtain⟨hs,ls',q1,q2,q3⟩:=sU m (j+1) _ _ _ hq;refine⟨c::hs,ls',q1,by simp[q2],fun i h0 e=>?_⟩;cases i with
    |zero=>simp at e;subst e;exact⟨hv,by simpa using hg,hc⟩
    | succ i=>
      have:=q3 i h0 (by simpa using e)
      rwa [show j+1+i=j+(i+1)from by omega]at this
   cases hc:hv.c with
   | own l=>
     simp only[hc]at hq;cases l with
     |v x=>exact fin _ (.inl ⟨x,hc,rfl⟩) hq
     |_=>exact hq.elim
   |ro l=>simp only[hc]at hq;exact fin _ (.inr ⟨l,hc,rfl⟩) hq
   |gone=>simp only[hc]at hq;exact hq.elim
theorem KQ (hT:bF P T){Φ:Type}{F0:Φ}{ctF:Φ->CT}{mtF:Φ->MT}{ptF:Φ->PT}{ntF:Φ->NT}{otF:Φ->OT}(hct:Aq P (ctF F0))(hmt:Fb P (mtF F0))(hpt:Fg P (ptF F0))(hnw:Fe P (ntF F0))(hot:Ff P (otF F0))(hm:P.follows .mixedOrders=true){f:FuncId}{fn:Func}{ds:List DV}{res:List H}(n:Nat)(c:Code)(ts:List TypeId)(rvs:List ResultVar) 
 (hf:P.funcs[f]?=some fn) (hb:fn.body=some c) (hnt:fn.ntmps=n) (hts:fn.resultTypes.toList=ts) (hrv:fn.results.toList=rvs) (hn:YZ ds.length n=true)
 (h:∀ O r F,O=am->r=res->F=F0->ou T O ⟨ctF F,mtF F,ptF F,ntF F,otF F⟩ n [] c (RB O rvs r) (eK 0 ds)):Fc P f ds res:=by
 subst hnt hts hrv;replace h:=h am res F0 rfl rfl rfl;replace hn:=Xg hn;intro X w vs hargs;refine calls_of_wp hf hb ?_;refine Y8 ?_ (eE (cx:=⟨fn.ntmps,w,fun _=>True,fun _=>undef,fun _=>none,fun _=>0,X⟩) hT (ct:=⟨ctF F0,mtF F0,ptF F0,ntF F0,otF F0⟩) ⟨hct,hmt,hpt,hnw,hot⟩ hm rfl (an:=[]) (fun r x e=>by cases e) c _ _ _ w h (Fv X fn.ntmps w ds vs hargs hn));rintro e a' w' ⟨ex,σ',rfl,hq',G,hS⟩;have hq:E3 am fn.results.toList σ' res:=by
  cases ex with
  |normal=>exact hq'
  |ret=>exact hq'
  |exit i=>exact hq'.elim
 have hex:ex=.normal\/ex=.ret:=by
  cases ex with
  |normal=>exact .inl rfl
  |ret=>exact .inr rfl
  |exit i=>exact hq'.elim
 unfold E3 at hq;split at hq
 case h_2=>exact hq.elim
 rename_i t hrv;obtain⟨ls,u,tt,h1,_⟩:=Rd.wpU_runs hq;obtain⟨v,ls1,hv,hreg,h1⟩:=lI hS h1;split at h1
 case h_2=>exact h1.elim
 rename_i r;obtain⟨ls2,_,h1⟩:=h1;simp only at h1;split at h1
 case h_2=>exact h1.elim
 rename_i k hmeta;obtain⟨hs',ls3,h1,hk,hl⟩:=sU k 0 _ _ _ h1;obtain⟨h1,_⟩:=h1;have h1:hs'=res:=h1;cases h1;subst hk;obtain⟨b,off,cur,ty,f1,f2,f3,f4,f5⟩:=hS.boxes r _ hmeta;simp only[cL]at hv;obtain⟨b',off',f6,f7⟩:=hv;rw[f1]at f6;cases f6;have hrun:(results fn a'.tmps).run P w'=.ok (a'.tmps.getD t undef) w':=by
  rw[wi,Wj (m:=Sem),hrv];simp[nX]
 have hcell:∀ j h,res[j]?=some h->Gp X w' h (G.val r j):=by
  intro j h0 e;obtain⟨h,g1,g2⟩:=hl j h0 e;rw[ZP]at g1;have hok:=hS.hok g1;rcases g2 with⟨x,q1,rfl⟩|⟨l,q1,rfl⟩
  ·simp only[eh,q1]at hok;obtain⟨q2,_,_⟩:=hok;simp only[bN]at q2;exact⟨q2.1,q2.2.1,rfl⟩
  ·simp only[eh,q1]at hok;obtain⟨S,q2,q3⟩:=hok;exact⟨S,q2,fun c hc=>hS.roX c (q3 c hc)⟩
 have fin:a'.defers=[]/\∃ v,(results fn a'.tmps).run P w'=.ok v w'/\∃ b off cur ty,∃ val:Nat->Value,Wv v=.returned (.pointer (some ⟨b,off,none⟩))/\w.heap.size<=b/\w'.heap[b]?=some (.cells cur ty (0,0))/\off+res.length<=cur.size/\
  (∀ j,j<res.length->cur[off+j]?=some (val j))/\(∀ j h,res[j]?=some h->Gp X w' h (val j))/\Same (fun _=>True) w w':=
  ⟨hS.defers,_,hrun,b,off,cur,ty,G.val r,by rw[f7];rfl,hS.newb r b off f1 rfl,f3,f4,f5,hcell,hS.frame⟩
 rcases hex with rfl|rfl;exact fin;exact fin
end
end Go.V
namespace Go.V
theorem SS:(∀ a b:Int,(cU .eql a b=true)↔a=b)/\(∀ a b:Int,(cU .eql a b=false)↔a≠b)/\(∀ a b:Int,(cU .neq a b=true)↔a≠b)/\(∀ a b:Int,(cU .neq a b=false)↔a=b)/\
 (∀ a b:Int,(cU .lss a b=true)↔a<b)/\(∀ a b:Int,(cU .lss a b=false)↔b<=a)/\(∀ a b:Int,(cU .leq a b=true)↔a<=b)/\(∀ a b:Int,(cU .leq a b=false)↔b<a)/\
 (∀ a b:Int,(cU .gtr a b=true)↔b<a)/\(∀ a b:Int,(cU .gtr a b=false)↔a<=b)/\(∀ a b:Int,(cU .geq a b=true)↔b<=a)/\(∀ a b:Int,(cU .geq a b=false)↔a<b)/\
 (∀ b,(GD b=true)↔b=false)/\(∀ b,(GD b=false)↔b=true)/\(∀ a b,zB true a b=a)/\(∀ a b,zB false a b=b)/\
 (∀ a b,(An .eql a b=true)↔a=b)/\(∀ a b,(An .eql a b=false)↔a≠b)/\(∀ a b,(An .neq a b=true)↔a≠b)/\(∀ a b,(An .neq a b=false)↔a=b)/\
 (∀ n,ziI n=(n:Int))/\(∀ es,lnI es=es.length)/\(∀ f,prI f=f ())/\(∀ n:Nat,Wu n=(n:Int))/\(∀ a b,Q8 a b=a++b)/\(∀ i,nnI i=i.toNat):=
 ⟨fun _ _=>JV,fun _ _=>JU,fun _ _=>J5,fun _ _=>J4,fun _ _=>J3,fun _ _=>J2,fun _ _=>J1,fun _ _=>J0,fun _ _=>JZ,fun _ _=>JY,fun _ _=>JX,fun _ _=>JW,
   fun _=>acg,fun _=>acf,fun _ _=>rfl,fun _ _=>rfl,fun _ _=>GG,fun _ _=>GF,fun _ _=>GI,fun _ _=>GH,fun _=>rfl,fun _=>rfl,fun _=>rfl,fun _=>rfl,fun _ _=>rfl,fun _=>rfl⟩
end Go.V
namespace Go.V
theorem onc (n:Nat):Wu n=(n:Int):=rfl
structure TB (P:Program) where
 Φ:Type
 F0:Φ
 ct:Φ->CT:=noC
 mt:Φ->MT:=TO
 pt:Φ->PT:=TR
 nt:Φ->NT:=TP
 ot:Φ->OT:=TQ
 hc:Aq P (ct F0):=by exact Pp
 hm:Fb P (mt F0):=by exact KR
 hp:Fg P (pt F0):=by exact KU
 hn:Fe P (nt F0):=by exact KS
 ho:Ff P (ot F0):=by exact KT
abbrev tb {P:Program}{Φ:Type}{F0:Φ}{ct:Φ->CT}(hc:Aq P (ct F0)):TB P:={Φ:=Φ,F0:=F0,ct:=ct,hc:=hc}
section
variable {P: Program} {T: Am} (B: TB P) (hT: bF P T) (hm: P.follows .mixedOrders = true) {f: FuncId} {fn: Func} {ds: List DV} (n: Nat) (c: Code) (ts: List TypeId) (rvs: List ResultVar)
include hT hm
theorem Pz {res:List DV}{outs:List (List H)}(hf:P.funcs[f]?=some fn)(hb:fn.body=some c)(hnt:fn.ntmps=n)(hts:fn.resultTypes.toList=ts)(hrv:fn.results.toList=rvs)(hn:YZ ds.length n=true)(hlo:(mpL 0 ds).length=outs.length)(hl0:(mpL 0 ds).all (fun q=>q.2.length.ble 999)=true) 
 (h:∀ O r os F,O=am->r=res->os=(fun i=>outs.getD i [])->F=B.F0->ou T O ⟨B.ct F,B.mt F,B.pt F,B.nt F,B.ot F⟩ n ((mpL 0 ds).map (·.1)) c (NW T O ts rvs (mpL 0 ds) r os) (fj 0 ds)):yt P f ds outs res:=
 Ew hT B.hc B.hm B.hp B.hn B.ho hm n c ts rvs hf hb hnt hts hrv hn hlo hl0 h
theorem Pn {res:List H}(hf:P.funcs[f]?=some fn)(hb:fn.body=some c)(hnt:fn.ntmps=n)(hts:fn.resultTypes.toList=ts)(hrv:fn.results.toList=rvs)(hn:YZ ds.length n=true) 
 (h:∀ O r F,O=am->r=res->F=B.F0->ou T O ⟨B.ct F,B.mt F,B.pt F,B.nt F,B.ot F⟩ n [] c (RB O rvs r) (eK 0 ds)):Fc P f ds res:=
 KQ hT B.hc B.hm B.hp B.hn B.ho hm n c ts rvs hf hb hnt hts hrv hn h
end
end Go.V