/-
  A condition generator for functions on trees of data, part 4 of 5: values in memory, contracts, soundness.
-/
import Derived.Test.YtbedjnlfdopeeaaGreatYVC
import Derived.IntWalk
import Derived.ProofKit
set_option linter.all false
open Go
open Act renaming put->ZS
open Bool renaming false_eq_true->Yj,rec->Vk,or_eq_false_iff->Vm,or_eq_true->Z7,and_eq_true->Zc,not_eq_true'->Y1
open Cell renaming okWide->XZ,ok->X0
open Code renaming region->Vr,wp_mono->YO
open DataW renaming trod->Xo,TrodAll->X1
open Ending renaming returned->X2
open Int renaming toNat_natCast->Zx,ofNat->WB
open IntKind renaming i64->Za
open IntWalk renaming i64_in->Xp
open List renaming mem_cons->Zn,any_cons->Vl,range->Zl,flatMap_cons->YL,filter_filter->Ww,filter_congr->XV,mem_range->Yc,range_add->Wk,range_succ->Vn,filter_append->Wx,filter_eq_nil_iff->XW,mem_map->ZQ,flatMap_append->Wy,append_nil->Z2,getElem?_eq_getElem->Zu,filter_eq_self->Vp,length_append->Zd,length_cons->Zp,length_nil->Zs,getD_eq_getElem?_getD->Zr,getElem?_append_left->ZW,getElem?_append_right->ZJ,getElem?_eq_none->ZY,all_eq_true->Yt,any_eq_true->XX,getElem?_eq_some_iff->ZG,getElem?_map->ZE,eq_nil_of_length_eq_zero->YK,mem_append->Zg,getElem?_drop->Zy,drop_drop->Yf,take_append_drop->ZL,length_drop->Zt,foldl_cons->Wm,getElem?_range->Xg,length_range->Xt,ext_getElem?->ZN,nil_append->ZI,map_cons->ZX,replicate->ZV,nodup_append->Zw,getD->ZA,range'->Y5,mem_of_getElem?->ZC,getElem?_of_mem->YN,getElem?_range'->Vt
open List.cons renaming injEq->Yg
open Nat renaming lt_or_ge->Z3,add_zero->Zi,le_refl->Ze,sub_self->Xd,zero_add->Zv,blt->Wz,beq->Z1,eq_of_beq_eq_true->Ys,blt_eq->Vs,ne_of_beq_eq_false->WA,add_mul->Zo,zero_le->Zh,succ_mul->Wn,mul_le_mul_right->ZK,ble->YH,le_of_ble_eq_true->Y8
open NatCast renaming natCast->VN
open Option renaming isSome_some->Vj,bind_some->YI,getD_some->Z9,map_eq_some_iff->ZD,map_some->Yk,bind_eq_some_iff->XY
open Option.some renaming injEq->Yl
open Prod.mk renaming injEq->WW
open Region renaming binds->Vo,ready->Vq
open Value renaming okWide->YW
open World renaming cell?->Yw
open _root_.Array renaming getElem?_toList->ZZ,getD_eq_getD_getElem?->Yx,getElem?_eq_getElem->Xn,getElem?_eq_some_iff->ZF,replicate->Y7,getElem?_append_left->Ws
namespace Go.V
section
variable {P: Program} {T: yN} {n: Nat} {g: Gm}
theorem Ny (hT:bK P T){d:Option Tmp}{op:BinOp}{t:TypeId}{x y:Operand}{ls:List Loc}{out:Out}(h:(Nx T ai n d op t x y).Runs g ls out):(Nw P n d op t x y).Runs g ls out:=by
 unfold Nx at h;unfold Nw;refine eX ?_ h;intro a ls h;refine eX ?_ h;intro b ls h;cases a with
 | v a=>
   cases b with
   | v b=>
     cases a with
     | int k a=>
       cases b with
       | int k' b=>
         by_cases hk:k=k'
         ·subst hk;cases op<;>first|exact h|(simp only[LU,IN,OZ,IM,Aw,LK,beq_self_eq_true,if_true,Yj,if_false]at h ⊢;exact h)|(simp only[LU,IN,OZ,IM,Aw,LK,beq_self_eq_true,if_true,Yj,if_false]at h ⊢;exact⟨trivial,h⟩)|(simp[LU,IN,OZ,IM,Rd.Runs]at h)
         ·cases op<;>first|exact h|(simp[LU,hk,Rd.Runs]at h)
       |_=>exact h.elim
     | bool a=>
       cases b with
       | bool b=>
         rcases hT.bo t with e|⟨q,e,hb⟩
         ·simp[e,Rd.Runs]at h
         ·cases op<;>first|(simp only[e,hb,Vj,TT,Bool.true_and,Bool.and_true,if_true]at h ⊢;exact h)|(simp[TT,Rd.Runs]at h)
       |_=>exact h.elim
     |_=>exact h.elim
   |_=>cases a<;>exact h.elim
 |_=>exact h.elim
theorem P2 {d:Option Tmp}{op:UnOp}{x:Operand}{ls:List Loc}{out:Out}(h:(aa8 ai n d op x).Runs g ls out):(vUn n d op x).Runs g ls out:=by
 unfold aa8 at h;unfold vUn;refine eX ?_ h;intro a ls h;cases a with
 |v a=>cases op<;>cases a<;>exact h
 |_=>cases op<;>exact h
theorem L6 {α:Type}{a:A}{k:Nat->Rd α}{ls:List Loc}{x:α}(h:(Rf ai a k).Runs g ls x):(O6 a k).Runs g ls x:=by
 cases a with
 | vn r j ver iv p lo m=>
   refine eF ?_ h;intro hv ls h
   revert h
   generalize hv.c=c;intro h;cases c with
   | own l=>
     refine dh (fun ls h=>?_) h;obtain⟨hs,h⟩:=h;obtain⟨⟨sz,es⟩,e⟩:=Option.isSome_iff_exists.1 hs;obtain⟨rec,o,f1,f2⟩:=rJ e;simp only[f1,f2];exact h
   |ro l=>exact h
   |gone=>exact h
 | vw r j ver lo m=>
   refine eF ?_ h;intro hv ls h
   revert h
   generalize hv.c=c;intro h;cases c with
   |own l=>cases l<;>exact h
   |ro l=>exact h
   |gone=>exact h
 |_=>exact h
theorem En {α:Type}{ti:TI}{a:A}{k' k:af->List (Nat×Nat)->Rd α}{ls:List Loc}{x:α}(hk:∀ es src ls,(k' es src).Runs g ls x->(k es src).Runs g ls x)(h:(CU ai ti a k').Runs g ls x):(uA ti a k).Runs g ls x:=by
 cases a with
 |nl=>exact hk _ _ _ h
 |ro sz es=>exact dh (fun ls h=>mO id (fun ls h=>hk _ _ _ h) h) h
 | vw r j ver lo m=>
   refine eF ?_ h;intro hv ls h
   revert h
   generalize hv.c=c;intro h;cases c with
   | own l=>cases l with
     | s sz es=>
       refine dh (fun ls h=>?_) h;by_cases hs:oX ti.slots=true
       ·rw[VR hs]at h ⊢;exact mO id (fun ls h=>hk _ _ _ h) h
       ·rw[VT hs]at h ⊢;exact mO id (fun ls h=>hk _ _ _ h) h
     |v x=>exact h
     |g=>exact h
     |m _ _=>exact h
   |ro l=>exact h
   |gone=>exact h
 | vn r j ver iv p lo m=>
   refine eF ?_ h;intro hv ls h
   revert h
   generalize hv.c=c;intro h;cases c with
   | own l=>
     refine dh (fun ls h=>?_) h;obtain⟨⟨h1,h2⟩,h⟩:=h;obtain⟨rec,o,f1,f2⟩:=rJ h1;simp only[f1,f2,beq_self_eq_true,if_true];exact⟨h2,hk _ _ _ h⟩
   |ro l=>exact h
   |gone=>exact h
 |_=>exact h
theorem Gf (hT:bK P T){d:Option Tmp}{t t':TypeId}{s x:Operand}{ls:List Loc}{out:Out}(h:(Ba T ai n d t t' s x).Runs g ls out):(uD P n d t t' s x).Runs g ls out:=by
 revert h
 unfold Ba uD;rcases hT.el t with e|⟨q,e,e2⟩
 ·simp only[e];exact fun h=>h.elim
 simp only[e,e2];intro h
 ·
   obtain⟨e,ti,b⟩:=q;refine dh (fun ls h=>?_) h;refine eX ?_ h;intro a ls h;refine eX ?_ h;intro b ls h;rw[CV]at h;refine A5 ?_ h;intro l og src ls h;cases l with
   | s sz es=>
     refine dh (fun ls h=>?_) h;refine En ?_ h;intro es2 src2 ls h;exact h
   |v y=>exact h
   |g=>exact h
   |m _ _=>exact h
def E4 (g:Gm){α τ:Type}(m:∀ {β:Type},(τ->Rd β)->Rd β)(k':τ->Rd α)(ls:List Loc)(x:α):Prop:=
 ∃ t ls',(k' t).Runs g ls' x/\∀ {β:Type} (k:τ->Rd β) (y:β),(k t).Runs g ls' y->(m k).Runs g ls y
theorem M0 {α:Type}{l:Loc}{k':Val->Rd α}{ls:List Loc}{x:α}(h:(rd l k').Runs g ls x):E4 g (fun k=>rd l k) k' ls x:=by
 unfold rd at h;obtain⟨ls',e,h⟩:=h;cases hg:g l with
 |none=>simp[hg,Rd.Runs]at h
 | some v=>
   simp only[hg]at h;refine⟨v,ls',h,?_⟩;intro β k y hy;refine⟨ls',e,?_⟩;simp only[hg];exact hy
theorem Pw {α:Type}{d:Nat}{k':R->Rd α}{ls:List Loc}{x:α}(h:(HR d k').Runs g ls x):E4 g (fun k=>HR d k) k' ls x:=by
 obtain⟨v,ls',h1,h2⟩:=M0 h;cases v with
 |r y=>exact⟨y,ls',h1,fun k z hz=>h2 _ z hz⟩
 |_=>exact h1.elim
theorem yA {α:Type}{r j:Nat}{k':Hv->Rd α}{ls:List Loc}{x:α}(h:(jx r j k').Runs g ls x):E4 g (fun k=>jx r j k) k' ls x:=by
 obtain⟨v,ls',h1,h2⟩:=M0 h;cases v with
 |h y=>exact⟨y,ls',h1,fun k z hz=>h2 _ z hz⟩
 |_=>exact h1.elim
theorem He {α:Type}{o:Operand}{k':R->Rd α}{ls:List Loc}{x:α}(h:(ev o k').Runs g ls x):E4 g (fun k=>ev o k) k' ls x:=by
 cases o with
 |tmp t=>exact Pw h
 |const c=>exact⟨_,ls,h,fun k y hy=>hy⟩
 |_=>exact h.elim
theorem KM {α:Type}{slot:Option Nat}{a:A}{k':L->Rd α}{ls:List Loc}{x:α}(h:(Iq ai slot a k').Runs g ls x):E4 g (fun k=>G7 slot a k) k' ls x:=by
 cases slot with
 | none=>
   cases a with
   | v y=>
     simp only[Iq]at h;split at h
     ·rename_i hs;exact⟨_,ls,h,fun k z hz=>by simp only[G7,hs,if_true];exact hz⟩
     ·exact h.elim
   |_=>exact h.elim
 | some sz=>
   cases a with
   |nl=>exact⟨_,ls,h,fun k y hy=>hy⟩
   | ro sz' es=>
     simp only[Iq]at h;split at h
     ·rename_i hs;exact⟨_,ls,h,fun k z hz=>by simp only[G7,hs,if_true];exact hz⟩
     ·exact h.elim
   | vw r j ver lo m=>
     obtain⟨hv,ls',h1,h2⟩:=yA h;cases hc:hv.c with
     | own l=>cases l with
       | s sz' es=>
         simp only[hc]at h1;split at h1
         ·rename_i hs;exact⟨_,ls',h1,fun k z hz=>h2 _ z (by simp only[hc,hs,if_true];exact hz)⟩
         ·exact h1.elim
       |v x=>simp[hc,Rd.Runs]at h1
       |g=>simp[hc,Rd.Runs]at h1
       |m _ _=>simp[hc,Rd.Runs]at h1
     |ro l=>simp[hc,Rd.Runs]at h1
     |gone=>simp[hc,Rd.Runs]at h1
   | vn r j ver iv p lo m=>
     obtain⟨hv,ls',h1,h2⟩:=yA h;cases hc:hv.c with
     | own l=>
       simp only[hc]at h1;split at h1
       ·rename_i hg;obtain⟨e1,h1⟩:=h1;obtain⟨rec,o,f1,f2⟩:=rJ e1;refine⟨_,ls',h1,fun k z hz=>h2 _ z ?_⟩;simp only[hc,hg,if_true,f1,f2,beq_self_eq_true];exact hz
       ·exact h1.elim
     |ro l=>simp[hc,Rd.Runs]at h1
     |gone=>simp[hc,Rd.Runs]at h1
   |_=>exact h.elim
theorem oC {α:Type}:∀ {sl:List (Option Nat)} {as:List A} {k':ay->Rd α} {ls:List Loc} {x:α},(lL ai sl as k').Runs g ls x->E4 g (fun k=>gx sl as k) k' ls x
 |[],[],_,ls,_,h=>⟨_,ls,h,fun _ _ hy=>hy⟩
 |[],_::_,_,_,_,h=>h.elim
 |_::_,[],_,_,_,h=>h.elim
 | _::_,_::_,_,_,_,h=>by
   obtain⟨l,ls1,h1,h2⟩:=KM h;obtain⟨l2,ls2,h3,h4⟩:=oC h1;exact⟨l::l2,ls2,h3,fun k y hy=>h2 _ y (h4 _ y hy)⟩
theorem lE {α:Type}{r:Nat}:∀ {m j:Nat} {k':ay->Rd α} {ls:List Loc} {x:α},(gI r j m k').Runs g ls x->E4 g (fun k=>gI r j m k) k' ls x
 |0,_,_,ls,_,h=>⟨_,ls,h,fun _ _ hy=>hy⟩
 | m+1,j,_,_,_,h=>by
   obtain⟨hv,ls1,h1,h2⟩:=yA h;cases hc:hv.c with
   | own l=>
     simp only[hc]at h1;obtain⟨rec,ls2,h3,h4⟩:=lE h1;exact⟨l::rec,ls2,h3,fun k y hy=>h2 _ y (by simp only[hc];exact h4 _ y hy)⟩
   | ro l=>
     simp only[hc]at h1;obtain⟨rec,ls2,h3,h4⟩:=lE h1;exact⟨l::rec,ls2,h3,fun k y hy=>h2 _ y (by simp only[hc];exact h4 _ y hy)⟩
   |gone=>simp[hc,Rd.Runs]at h1
theorem OM {α:Type}{l:Loc}{k':Option Val->Rd α}{ls:List Loc}{x:α}(h:(Rd.get l k').Runs g ls x):E4 g (fun k=>Rd.get l k) k' ls x:=by
 obtain⟨ls',e,h⟩:=h;exact⟨g l,ls',h,fun k y hy=>⟨ls',e,hy⟩⟩
theorem nj {α:Type}:∀ {cs:List GM} {k':af->Rd α} {ls:List Loc} {x:α},(gR cs k').Runs g ls x->E4 g (fun k=>gR cs k) k' ls x
 |[],_,ls,_,h=>⟨_,ls,h,fun _ _ hy=>hy⟩
 | .pt r j::cs,_,_,_,h=>by
   obtain⟨v,ls1,h1,h2⟩:=OM h;dsimp only at h1;split at h1
   ·rename_i n;split at h1
    ·rename_i hj;obtain⟨rec,ls2,h3,h4⟩:=lE h1;obtain⟨recs,ls3,h5,h6⟩:=nj h3;exact⟨rec::recs,ls3,h5,fun k y hy=>h2 _ y (by simp only[hj,if_true];exact h4 _ y (h6 _ y hy))⟩
    ·exact h1.elim
   ·exact h1.elim
 | .rp rec j::cs,_,_,_,h=>by
   simp only[gR]at h;split at h
   ·rename_i hj;obtain⟨recs,ls3,h5,h6⟩:=nj h;exact⟨_,ls3,h5,fun k y hy=>by simp only[gR,hj,if_true];exact h6 _ y hy⟩
   ·exact h.elim
theorem DD {α:Type}{o:Operand}{k':A->Rd α}{ls:List Loc}{x:α}(h:(ju o k').Runs g ls x):E4 g (fun k=>ju o k) k' ls x:=by
 obtain⟨v,ls1,h1,h2⟩:=He h;cases v with
 |one a=>exact⟨a,ls1,h1,fun k y hy=>h2 _ y hy⟩
 |agg as=>exact h1.elim
 |tup rs=>exact h1.elim
theorem KO (hT:bK P T){α:Type}{t:TypeId}{o:Operand}{k':DV->Rd α}{ls:List Loc}{x:α}(h:(KN (lk T.ptL t) o k').Runs g ls x):E4 g (fun k=>KN (Jk P t) o k) k' ls x:=by
 obtain⟨v,ls1,h1,h2⟩:=DD h;cases v with
 | pt r j=>
   rcases hT.pt t with e|⟨ti,e,e2⟩
   ·simp[e,Rd.Runs]at h1
   ·simp only[e]at h1;split at h1
    ·rename_i hp;obtain⟨rec,ls2,h3,h4⟩:=lE h1;exact⟨_,ls2,h3,fun k y hy=>h2 _ y (by simp only[e2,hp,if_true];exact h4 _ y hy)⟩
    ·exact h1.elim
 | rp rec j=>
   rcases hT.pt t with e|⟨ti,e,e2⟩
   ·simp[e,Rd.Runs]at h1
   ·simp only[e]at h1;split at h1
    ·rename_i hp;exact⟨_,ls1,h1,fun k y hy=>h2 _ y (by simp only[e2];rw[VR hp];exact hy)⟩
    ·exact h1.elim
 | fn f caps=>
   obtain⟨recs,ls2,h3,h4⟩:=nj h1;exact⟨_,ls2,h3,fun k y hy=>h2 _ y (h4 _ y hy)⟩
 |_=>exact h1.elim
theorem KL (hT:bK P T){α:Type}{t:TypeId}{o:Operand}{k':DV->Rd α}{ls:List Loc}{x:α}(h:(KJ T ai t o k').Runs g ls x):E4 g (fun k=>G5 P t o k) k' ls x:=by
 unfold KJ at h;rcases hT.ty t with e|⟨ti,e,hti⟩
 ·simp only[e]at h;split at h
  ·rename_i hp;rcases hT.pn t with f|⟨_,_,f⟩
   ·simp[f]at hp
   ·obtain⟨d,ls1,h1,h2⟩:=KO hT h;exact⟨d,ls1,h1,fun k y hy=>by unfold G5;simp only[f];exact h2 _ y hy⟩
  ·exact h.elim
 ·simp only[e]at h;obtain⟨v,ls1,h1,h2⟩:=He h;cases v with
  | one a=>
    simp only at h1;split at h1
    ·exact h1.elim
    ·rename_i hb;obtain⟨l,ls2,h3,h4⟩:=oC h1;simp only at h3;split at h3
     ·refine⟨_,ls2,h3,fun k y hy=>?_⟩;unfold G5;simp only[hti];refine h2 _ y ?_;simp only;rw[VT hb];exact h4 _ y hy
     ·exact h3.elim
  | agg as=>
    simp only at h1;split at h1
    ·rename_i hb;obtain⟨l,ls2,h3,h4⟩:=oC h1;refine⟨_,ls2,h3,fun k y hy=>?_⟩;unfold G5;simp only[hti];refine h2 _ y ?_;simp only;rw[VR hb];exact h4 _ y hy
    ·exact h1.elim
  |tup rs=>exact h1.elim
theorem uQ (hT:bK P T){α:Type}:∀ {ts:List TypeId} {xs:List Operand} {k':List DV->Rd α} {ls:List Loc} {x:α},(Di T ai ts xs k').Runs g ls x->E4 g (fun k=>tj P ts xs k) k' ls x
 |[],[],_,ls,_,h=>⟨_,ls,h,fun _ _ hy=>hy⟩
 |[],_::_,_,_,_,h=>h.elim
 |_::_,[],_,_,_,h=>h.elim
 | _::_,_::_,_,_,_,h=>by
   obtain⟨l,ls1,h1,h2⟩:=KL hT h;obtain⟨l2,ls2,h3,h4⟩:=uQ hT h1;exact⟨l::l2,ls2,h3,fun k y hy=>h2 _ y (h4 _ y hy)⟩
theorem JM {α:Type}{d:Option Tmp}{k':Nat->Rd α}{ls:List Loc}{x:α}(h:(fresh n d k').Runs g ls x):E4 g (fun k=>fresh n d k) k' ls x:=by
 cases d with
 |none=>exact h.elim
 | some d=>
   simp only[fresh]at h;split at h
   ·rename_i hlt;obtain⟨ls',e,h⟩:=h;cases hg:g (.meta_ d)with
    | none=>
      simp only[hg]at h;refine⟨d,ls',h,fun k y hy=>?_⟩;simp only[fresh,hlt,if_true,Rd.Runs];exact⟨ls',e,by simp only[hg];exact hy⟩
    |some v=>simp[hg,Rd.Runs]at h
   ·exact h.elim
def C0 (P:Program)(ct:CT):Prop:=∀ f ds pre res,ct f ds=some (pre,res)->pre ()->Ku P f ds res
def GV (P:Program)(mt:MT):Prop:=∀ f mk,mt f=some mk->∀ ds pre outs res,mk ds=some (pre,outs,res)->pre ()->E5 P f ds outs res
def G3 (P:Program)(pt:FuncId->Option PK):Prop:=∀ f mk,pt f=some mk->∀ ds pre outs res,mk ds=some (pre,outs,res)->pre ()->De P f ds outs res
def GW (P:Program)(nt:FuncId->Option NK):Prop:=∀ f mk,nt f=some mk->∀ ds pre hs,mk ds=some (pre,hs)->pre ()->abz P f ds hs
def GY (P:Program)(ot:FuncId->Option SB):Prop:=∀ f mk,ot f=some mk->∀ ds pre res,mk ds=some (pre,res)->pre ()->GX P f ds res
def yG (P:Program)(ct:Ig):Prop:=C0 P ct.rd/\GV P ct.mu/\G3 P ct.pt/\GW P ct.nw/\GY P ct.tk
def SJ (P:Program)(n:Nat)(o:Oper)(rd:Rd Out):Prop:=
 ∀ (cx:Cx) (G:Gh) (g:Gm) (a:Act) (w:World) (ls:List Loc) (ws:List W),cx.n=n->aQ cx G g a w->rd.Runs g ls (.ws ws)->
  ∀ (K:Act->World->Prop) (Q:Exit->Act->World->Prop),(∀ a' w',gw cx (bz g ws) a' w'->K a' w')->o.wp P a w K Q
def hD (P:Program)(n:Nat)(o:Oper)(g:Gm)(ls:List Loc)(ws:List W):Prop:=
 (kz o=none/\(vop P n o).Runs g ls (.ws ws))\/
 (∃ f ts args ds mk res,kz o=some (f,ts,args)/\(CX P n o.dst f ts args).Runs g ls (.call f ds mk)/\Ku P f ds res/\ws=mk res)\/
 (∃ f ts args mk,kz o=some (f,ts,args)/\(∀ ds pre outs res,mk ds=some (pre,outs,res)->pre ()->E5 P f ds outs res)/\(v5 ou pw sH (mY P) n o.dst (eG P f) ts args mk d6).Runs g ls (.ws ws))\/
 ∃ rd,SJ P n o rd/\rd.Runs g ls (.ws ws)
theorem J1 {α:Type}{slot:Option Nat}{a:A}{k' k:L->List Pl->Rd α}{x:α}{ls:List Loc}(hk:∀ l p ls,(k' l p).Runs g ls x->(k l p).Runs g ls x)(h:(MG ou pw slot a k').Runs g ls x):(MG ou pw slot a k).Runs g ls x:=by
 cases slot with
 | none=>
   cases a with
   |v y=>exact dh (fun ls h=>hk _ _ _ h) h
   |_=>exact h
 | some sz=>
   cases a with
   | vw r j ver lo m=>
     refine eF ?_ h;intro hv ls h
     revert h
     generalize hv.c=c;intro h;cases c with
     | own l=>cases l with
       |s sz' es=>exact dh (fun ls h=>mO id (fun ls h=>hk _ _ _ h) h) h
       |v x=>exact h
       |g=>exact h
       |m _ _=>exact h
     |ro l=>exact h
     |gone=>exact h
   | vn r j ver iv p lo m=>
     refine eF ?_ h;intro hv ls h
     revert h
     generalize hv.c=c;intro h;cases c with
     | own l=>cases l with
       |s sz' es=>exact dh (fun ls h=>mO id (fun ls h=>hk _ _ _ h) h) h
       |v x=>exact h
       |g=>exact h
       |m _ _=>exact h
     |ro l=>exact h
     |gone=>exact h
   |_=>exact h
theorem rk {α:Type}:∀ {sl:List (Option Nat)} {as:List A} {k' k:ay->List Pl->Rd α} {x:α} {ls:List Loc},(∀ l p ls,(k' l p).Runs g ls x->(k l p).Runs g ls x)->(vN ou pw sl as k').Runs g ls x->(vN ou pw sl as k).Runs g ls x
 |[],[],k',k,x,ls,hk,h=>hk _ _ _ h
 |[],_::_,k',k,x,ls,hk,h=>h
 |_::_,[],k',k,x,ls,hk,h=>h
 |s::sl,a::as,k',k,x,ls,hk,h=>J1 (fun l p ls h=>rk (fun _ _ ls h=>hk _ _ ls h) h) h
theorem J3 {ty ty':TypeId->Option TI}(ht:∀ t x,ty t=some x->ty' t=some x){α:Type}{t:TypeId}{o:Operand}{k' k:DV->List Pl->Rd α}{x:α}{ls:List Loc}(hk:∀ d p ls,(k' d p).Runs g ls x->(k d p).Runs g ls x) 
 (h:(J2 ou pw ty t o k').Runs g ls x):(J2 ou pw ty' t o k).Runs g ls x:=by
 unfold J2 at h ⊢;cases hti:ty t with
 |none=>simp[hti,Rd.Runs]at h
 | some ti=>
   simp only[hti]at h;simp only[ht t ti hti];refine tZ ?_ h;intro v ls h;cases v with
   | one a=>
     simp only at h ⊢;split at h
     ·exact h.elim
     ·rename_i hb;rw[VT hb];refine rk ?_ h;intro l p ls h;split at h
      ·exact hk _ _ _ h
      ·exact h.elim
   | agg as=>
     simp only at h ⊢;split at h
     ·rename_i hb;rw[VR hb];exact rk (fun l p ls h=>hk _ _ _ h) h
     ·exact h.elim
   |tup rs=>exact h
theorem AM {ty ty':TypeId->Option TI}(ht:∀ t x,ty t=some x->ty' t=some x){α:Type}:∀ {ts:List TypeId} {xs:List Operand} {k' k:List DV->List Pl->Rd α} {x:α} {ls:List Loc},(∀ d p ls,(k' d p).Runs g ls x->(k d p).Runs g ls x)->
 (CM ou pw ty ts xs k').Runs g ls x->(CM ou pw ty' ts xs k).Runs g ls x
 |[],[],k',k,x,ls,hk,h=>hk _ _ _ h
 |[],_::_,k',k,x,ls,hk,h=>h
 |_::_,[],k',k,x,ls,hk,h=>h
 |t::ts,o::xs,k',k,x,ls,hk,h=>J3 ht (fun d p ls h=>AM ht (fun _ _ ls h=>hk _ _ ls h) h) h
theorem Gi (hT:bK P T){o:Oper}{f:FuncId}{ts:Array TypeId}{args:Array Operand}{mk:MK}{ls:List Loc}{ws:List W}(hc:kz o=some (f,ts,args))(hmk:∀ ds pre outs res,mk ds=some (pre,outs,res)->pre ()->E5 P f ds outs res) 
 (h:(v5 ai.pr ai.ps ai.up (lk T.tyL) n o.dst (lk T.fnL f).isSome ts args mk (gN ai)).Runs g ls (.ws ws)):hD P n o g ls ws:=by
 refine .inr (.inr (.inl ⟨f,ts,args,mk,hc,hmk,?_⟩));rw[show ai.pr=ou from rfl,show ai.ps=pw from rfl,show ai.up=sH from rfl,show gN ai=d6 from by funext d res;exact lI d res]at h;unfold v5 at h ⊢;split at h
 ·rename_i hb';have hb:eG P f=true:=by
   rcases hT.fn f with e|⟨_,_,e⟩
   ·rw[e]at hb';cases hb'
   ·exact e
  rw[VR hb];refine AM ?_ (fun _ _ _ h=>h) h;intro t x e;rcases hT.ty t with q|⟨y,q1,q2⟩
  ·rw[q]at e;cases e
  ·rw[q1]at e;cases e;exact q2
 ·exact h.elim
theorem H7 (hT:bK P T){ct:Ig}(hct:yG P ct){o:Oper}{f:FuncId}{ts:Array TypeId}{args:Array Operand}{ls:List Loc}{ws:List W}(hc:kz o=some (f,ts,args)) 
 (h:(H5 T ai ct n o.dst f ts args).Runs g ls (.ws ws)):hD P n o g ls ws:=by
 unfold H5 at h;split at h
 ·rename_i hb';have hb:eG P f=true:=by
   rcases hT.fn f with e|⟨_,_,e⟩
   ·rw[e]at hb';cases hb'
   ·exact e
  obtain⟨ds,ls1,h1,h2⟩:=uQ hT h;simp only at h1;split at h1
  ·rename_i pre res he;obtain⟨hp,h1⟩:=h1;obtain⟨d,ls2,h3,h4⟩:=JM h1;simp only[Rd.Runs,Out.ws.injEq]at h3;obtain⟨rfl,rfl⟩:=h3;refine .inr (.inl ⟨f,ts,args,ds,d6 d,res,hc,?_,hct.1 _ _ _ _ he hp,by rw[lI]⟩);unfold CX;rw[VR hb];refine h2 _ _ (h4 _ _ ?_);simp[Rd.Runs]
  ·exact h1.elim
 ·exact h.elim
theorem sU {α:Type}{r:Nat}:∀ {m j:Nat} {k':List H->Rd α} {ls:List Loc} {x:α},(oi r j m k').Runs g ls x->E4 g (fun k=>oi r j m k) k' ls x
 |0,_,_,ls,_,h=>⟨_,ls,h,fun _ _ hy=>hy⟩
 | m+1,j,_,_,_,h=>by
   obtain⟨hv,ls1,h1,h2⟩:=yA h;cases hc:hv.c with
   | own l=>
     simp only[hc]at h1;obtain⟨rec,ls2,h3,h4⟩:=sU h1;exact⟨.own l::rec,ls2,h3,fun k y hy=>h2 _ y (by simp only[hc];exact h4 _ y hy)⟩
   | ro l=>
     simp only[hc]at h1;obtain⟨rec,ls2,h3,h4⟩:=sU h1;exact⟨.ro l::rec,ls2,h3,fun k y hy=>h2 _ y (by simp only[hc];exact h4 _ y hy)⟩
   |gone=>simp[hc,Rd.Runs]at h1
theorem MI (hT:bK P T){α:Type}{t:TypeId}{o:Operand}{k':DV×List (Nat×Nat)×List mV->Rd α}{ls:List Loc}{x:α} 
 (h:(Ea (fun {β}=>lL ai (α:=β)) (lk T.tyL) (lk T.ptL) (fun t=>(lk T.pnL t).isSome) t o fun d s p=>k' (d,s,p)).Runs g ls x):E4 g (fun k=>Ea gx (mY P) (Jk P) (fun _=>true) t o fun d s p=>k (d,s,p)) k' ls x:=by
 unfold Ea at h;rcases hT.ty t with e|⟨ti,e,hti⟩
 ·simp only[e]at h;split at h
  case isFalse=>exact h.elim
  rename_i hp;rcases hT.pn t with f|⟨_,_,f⟩
  ·simp[f]at hp
  obtain⟨v,ls1,h1,h2⟩:=DD h;cases v with
  | pt r j=>
    rcases hT.pt t with e3|⟨ti,e3,e4⟩
    ·simp[e3,Rd.Runs]at h1
    ·simp only[e3]at h1;split at h1
     ·rename_i hpos;obtain⟨hs,ls2,h3,h4⟩:=sU h1;exact⟨(_,_,_),ls2,h3,fun k y hy=>by unfold Ea;simp only[f,if_true];exact h2 _ y (by simp only[e4,hpos,if_true];exact h4 _ y hy)⟩
     ·exact h1.elim
  |_=>exact h1.elim
 ·simp only[e]at h;obtain⟨v,ls1,h1,h2⟩:=He h;cases v with
  | one a=>
    simp only at h1;split at h1
    ·exact h1.elim
    ·rename_i hb;obtain⟨l,ls2,h3,h4⟩:=oC h1;simp only at h3;split at h3
     ·refine⟨(_,_,_),ls2,h3,fun k y hy=>?_⟩;unfold Ea;simp only[hti];refine h2 _ y ?_;simp only;rw[VT hb];exact h4 _ y hy
     ·exact h3.elim
  | agg as=>
    simp only at h1;split at h1
    ·rename_i hb;obtain⟨l,ls2,h3,h4⟩:=oC h1;refine⟨(_,_,_),ls2,h3,fun k y hy=>?_⟩;unfold Ea;simp only[hti];refine h2 _ y ?_;simp only;rw[VR hb];exact h4 _ y hy
    ·exact h1.elim
  |tup rs=>exact h1.elim
theorem vO (hT:bK P T){α:Type}:∀ {ts:List TypeId} {xs:List Operand} {k':List DV×List (Nat×Nat)×List mV->Rd α} {ls:List Loc} {x:α},
 (uq (fun {β}=>lL ai (α:=β)) (lk T.tyL) (lk T.ptL) (fun t=>(lk T.pnL t).isSome) ts xs fun d s p=>k' (d,s,p)).Runs g ls x->E4 g (fun k=>uq gx (mY P) (Jk P) (fun _=>true) ts xs fun d s p=>k (d,s,p)) k' ls x
 |[],[],_,ls,_,h=>⟨(_,_,_),ls,h,fun _ _ hy=>hy⟩
 |[],_::_,_,_,_,h=>h.elim
 |_::_,[],_,_,_,h=>h.elim
 | t::ts,o::xs,k',_,_,h=>by
   obtain⟨⟨d,s,p⟩,ls1,h1,h2⟩:=MI hT (k':=fun q=>uq (fun {β}=>lL ai (α:=β)) (lk T.tyL) (lk T.ptL) (fun t=>(lk T.pnL t).isSome) ts xs fun ds srcs pts=>k' (q.1::ds,q.2.1++srcs,q.2.2++pts)) h;obtain⟨⟨ds,ss,ps⟩,ls2,h3,h4⟩:=vO hT (k':=fun q=>k' (d::q.1,s++q.2.1,p++q.2.2)) h1;exact⟨(_,_,_),ls2,h3,fun k y hy=>h2 (fun q=>uq gx (mY P) (Jk P) (fun _=>true) ts xs fun ds srcs pts=>k (q.1::ds,q.2.1++srcs,q.2.2++pts)) y (h4 (fun q=>k (d::q.1,s++q.2.1,p++q.2.2)) y hy)⟩
theorem Gj (hT:bK P T){o:Oper}{f:FuncId}{ts:Array TypeId}{args:Array Operand}{mk:PK}{ls:List Loc}{ws:List W}(hc:kz o=some (f,ts,args))(hmk:∀ ds pre outs res,mk ds=some (pre,outs,res)->pre ()->De P f ds outs res) 
 (h:(v6 ai.pr (fun {β}=>lL ai (α:=β)) (lk T.tyL) (lk T.ptL) (fun t=>(lk T.pnL t).isSome) n o.dst (lk T.fnL f).isSome ts args mk (gN ai)).Runs g ls (.ws ws)):hD P n o g ls ws:=by
 refine .inr (.inr (.inr ⟨v6 ou gx (mY P) (Jk P) (fun _=>true) n o.dst (eG P f) ts args mk d6,?_,?_⟩))
 ·intro cx G g a w ls ws hn hS h K Q hk;subst hn;exact EG (qK hc) hS hmk h hk
 ·rw[show ai.pr=ou from rfl,show gN ai=d6 from by funext d res;exact lI d res]at h;unfold v6 at h ⊢;split at h
  ·rename_i hb';have hb:eG P f=true:=by
    rcases hT.fn f with e|⟨_,_,e⟩
    ·rw[e]at hb';cases hb'
    ·exact e
   rw[VR hb];obtain⟨⟨ds,ss,ps⟩,ls1,h1,h2⟩:=vO hT (k':=fun q=>match mk q.1 with
    | some (pre,outs,res)=>if qi q.2.2&&q.2.1.all (fun s=>q.2.2.all fun p=> !FA s p)then .req (ou pre) (Ke q.2.2 outs fun ws=>match o.dst with
       |some _=>fresh n o.dst fun d=>.ret (Out.ws (ws++d6 d res))
       |none=>.ret (Out.ws ws))else .fail
    |none=>.fail) h
   exact h2 (fun q=>match mk q.1 with
    | some (pre,outs,res)=>if qi q.2.2&&q.2.1.all (fun s=>q.2.2.all fun p=> !FA s p)then .req (ou pre) (Ke q.2.2 outs fun ws=>match o.dst with
       |some _=>fresh n o.dst fun d=>.ret (Out.ws (ws++d6 d res))
       |none=>.ret (Out.ws ws))else .fail
    |none=>.fail) _ h1
  ·exact h.elim
theorem H4 (hT:bK P T){ct:Ig}{d:Option Tmp}{t:Tmp}{ts:Array TypeId}{args:Array Operand}{ls:List Loc}{out:Out} 
 (h:(ED T ai ct n d t ts args).Runs g ls out):(EB P ct.rd n d t ts args).Runs g ls out:=by
 unfold ED at h;obtain⟨v,ls1,h1,h2⟩:=DD h;cases v with
 | fn f caps=>
   obtain⟨ds,ls2,h3,h4⟩:=uQ hT h1;obtain⟨recs,ls3,h5,h6⟩:=nj h3;unfold EB;refine h2 _ _ (h4 _ _ (h6 _ _ ?_));cases hm:ct.rd f (ds++recs.map .ptr)with
   |none=>simp[hm,Rd.Runs]at h5
   | some pr=>
     obtain⟨pre,res⟩:=pr;simp only[hm]at h5 ⊢;obtain⟨hp,hb,h5⟩:=h5;refine⟨⟨hp,?_⟩,?_⟩
     ·rcases hT.fn f with e|⟨_,_,e⟩
      ·have hb:(lk T.fnL f).isSome=true:=hb;rw[e]at hb;cases hb
      ·exact e
     ·rw[show gN ai=d6 from by funext d res;exact lI d res]at h5;exact h5
 |_=>exact h1.elim
theorem Gg (hT:bK P T){d:Option Tmp}{t:Tmp}{ts:Array TypeId}{args:Array Operand}{pt:FuncId->Option PK}{ls:List Loc}{out:Out} 
 (h:(rZ ou (fun {β}=>lL ai (α:=β)) (lk T.tyL) (lk T.ptL) (fun t=>(lk T.pnL t).isSome) n d (fun f=>(lk T.fnL f).isSome) t ts args pt (gN ai)).Runs g ls out):
 (rZ ou gx (mY P) (Jk P) (fun _=>true) n d (eG P) t ts args pt d6).Runs g ls out:=by
 unfold rZ at h ⊢;refine eX ?_ h;intro v ls h;cases v with
 | fn f caps=>
   simp only at h ⊢;cases hm:pt f with
   |none=>simp[hm,Rd.Runs]at h
   | some mk=>
     simp only[hm]at h ⊢;rcases hT.fn f with e|⟨_,e1,e2⟩
     ·simp[e,Rd.Runs]at h
     rw[VR e2];rw[VR (by rw[e1];rfl)]at h;rw[show gN ai=d6 from by funext d res;exact lI d res]at h;obtain⟨⟨ds,ss,ps⟩,ls1,h1,h2⟩:=vO hT (k':=fun q=>zZ caps fun ds2 pts2=>Gc ou n d (q.1++ds2) q.2.1 (q.2.2++pts2) mk d6) h;exact h2 (fun q=>zZ caps fun ds2 pts2=>Gc ou n d (q.1++ds2) q.2.1 (q.2.2++pts2) mk d6) _ h1
 |_=>exact h.elim
def H6 (P:Program)(ct:Ig)(n:Nat)(d:Option Tmp)(t:Tmp)(ts:Array TypeId)(args:Array Operand):Rd Out:=
 ju (.tmp t) fun
  | .fn f _=>match ct.pt f with
    |some _=>rZ ou gx (mY P) (Jk P) (fun _=>true) n d (eG P) t ts args ct.pt d6
    |none=>EB P ct.rd n d t ts args
  |_=>.fail
theorem Gn (hT:bK P T){ct:Ig}(hct:yG P ct){o:Oper}{t:Tmp}{ts:Array TypeId}{args:Array Operand}{ls:List Loc}{ws:List W}(ho:o.op=.call {callee:=.value (.tmp t),args:=args,argTypes:=ts}) 
 (h:(EI T ai ct n o.dst t ts args).Runs g ls (.ws ws)):hD P n o g ls ws:=by
 refine .inr (.inr (.inr ⟨H6 P ct n o.dst t ts args,?_,?_⟩))
 ·intro cx G g a w ls ws hn hS h K Q hk;subst hn;unfold H6 at h;obtain⟨x0,ls1,hx,h⟩:=bC hS h;cases x0 with
  | fn f caps=>
    simp only at h;split at h
    ·exact Ca ho hS (fun f mk e=>hct.2.2.1 f mk e) h hk
    ·exact EE (fun f ds pre res e hp=>hct.1 f ds pre res e hp) ho hS h hk
  |_=>exact h.elim
 ·unfold EI at h;unfold H6;refine eX ?_ h;intro v ls h;cases v with
  | fn f caps=>
    simp only at h ⊢;cases hm:ct.pt f with
    |some mk=>simp only[hm]at h ⊢;exact Gg hT h
    |none=>simp only[hm]at h ⊢;exact H4 hT h
  |_=>exact h.elim
theorem ET (hT:bK P T){o:Oper}{t:TypeId}{x:Operand}{lo hi mx:Option Operand}{ls:List Loc}{ws:List W}(ho:o.op=.slice t x lo hi mx)(h:(Bh T ai n o.dst t x lo hi mx).Runs g ls (.ws ws)):hD P n o g ls ws:=by
 refine .inr (.inr (.inr ⟨ju x fun
  | .vn _ _ _ _ _ _ _=>uG ou (fun lo i=>lo+i.toNat) (fun h l=>h.toNat-l.toNat) (fun n=>n) (Fo P) n o.dst t x lo hi mx
  |_=>wi P n o.dst t x lo hi mx,?_,?_⟩))
 ·intro cx G g a w ls ws hn hS h K Q hk;subst hn;obtain⟨x0,ls1,_,h⟩:=bC hS h;cases x0 with
  |vn r j ver iv p lo m=>exact Ce ho hS h hk
  |_=>exact uH ho hS h hk
 ·unfold Bh at h;refine eX ?_ h;intro v ls h;cases v with
  | vn r j ver iv p lo m=>
    simp only at h ⊢;unfold uG at h ⊢;rcases hT.el t with e|⟨y,e,e2⟩
    ·rw[e]at h;exact h.elim
    ·rw[e]at h;rw[e2];exact h
  |_=>exact Ia hT h
theorem EV (hT:bK P T){o:Oper}{t:TypeId}{x y:Operand}{ls:List Loc}{ws:List W}(ho:o.op=.store t x y)(hd:o.dst=none)(h:(Bi T ai t x y).Runs g ls (.ws ws)):hD P n o g ls ws:=by
 refine .inr (.inr (.inr ⟨ev y fun
  | .one (.vn _ _ _ _ _ _ _)=>uI ou pw (fun es lo m=>(es.drop lo).take m) sH (mY P) t x y
  |_=>wj P t x y,?_,?_⟩))
 ·intro cx G g a w ls ws hn hS h K Q hk;subst hn;obtain⟨x0,ls1,_,h⟩:=eY hS h;split at h
  ·exact Cf ho hd hS h hk
  ·exact uJ ho hd hS h hk
 ·unfold Bi at h;refine tZ ?_ h;intro v ls h;split at h
  ·try simp only
   unfold uI at h ⊢;rcases hT.ty t with e|⟨z,e,e2⟩
   ·rw[e]at h;exact h.elim
   ·rw[e]at h;rw[e2];exact h
  ·rename_i hne
   first
    |exact Bj hT h
    | (split
       ·exact absurd rfl (hne _ _ _ _ _ _ _)
       ·exact Bj hT h)
theorem Cc (hT:bK P T){o:Oper}{t:TypeId}{r:Option Operand}{ls:List Loc}{ws:List W}(ho:o.op=.makeMap t r)(h:(oT (lk T.mpL) n o.dst t r).Runs g ls (.ws ws)):hD P n o g ls ws:=by
 refine .inr (.inr (.inr ⟨oT (D6 P) n o.dst t r,?_,?_⟩))
 ·intro cx G g a w ls ws hn hS h K Q hk;subst hn;exact Bf ho hS h hk
 ·unfold oT at h ⊢;rcases hT.mp t with e|⟨x,e,e2⟩
  ·cases r<;>simp[e,Rd.Runs]at h
  ·rw[e]at h;rw[e2];exact h
theorem Gw (hT:bK P T){o:Oper}{t:TypeId}{x:Operand}{ls:List Loc}{ws:List W}(ho:o.op=.range t x)(h:(wh (lk T.mpL) n o.dst t x).Runs g ls (.ws ws)):hD P n o g ls ws:=by
 refine .inr (.inr (.inr ⟨wh (D6 P) n o.dst t x,?_,?_⟩))
 ·intro cx G g a w ls ws hn hS h K Q hk;subst hn;exact ER ho hS h hk
 ·unfold wh at h ⊢;rcases hT.mp t with e|⟨y,e,e2⟩
  ·simp[e,Rd.Runs]at h
  ·rw[e]at h;rw[e2];exact h
theorem Gq {o:Oper}{x:Operand}{ls:List Loc}{ws:List W}(ho:o.op=.entry x)(h:(Bc n o.dst x).Runs g ls (.ws ws)):hD P n o g ls ws:=by
 refine .inr (.inr (.inr ⟨Bc n o.dst x,?_,h⟩));intro cx G g a w ls ws hn hS h K Q hk;subst hn;exact EJ ho hS h hk
theorem Gr (hT:bK P T){o:Oper}{t:TypeId}{x:Operand}{f:Nat}{ls:List Loc}{ws:List W}(ho:o.op=.field t x f)(h:(v9 (lk T.cmL) n o.dst t x f).Runs g ls (.ws ws)):hD P n o g ls ws:=by
 refine .inr (.inr (.inr ⟨v9 (cmT P) n o.dst t x f,?_,?_⟩))
 ·intro cx G g a w ls ws hn hS h K Q hk;subst hn;exact EK ho hS h hk
 ·unfold v9 at h ⊢;rcases hT.cm t with e|⟨y,e,e2⟩
  ·rw[e]at h;exact h.elim
  ·rw[e]at h;rw[e2];exact h
theorem EL (hT:bK P T){o:Oper}{t:TypeId}{x i:Operand}{k:Bool}{ls:List Loc}{ws:List W}(ho:o.op=.lookup t x i k)(h:(se mgbI jZ (lk T.mpL) n o.dst t x i k).Runs g ls (.ws ws)):hD P n o g ls ws:=by
 refine .inr (.inr (.inr ⟨se mgbI jZ (D6 P) n o.dst t x i k,?_,?_⟩))
 ·intro cx G g a w ls ws hn hS h K Q hk;subst hn;exact Cb ho hS h hk
 ·unfold se at h ⊢;rcases hT.mp t with e|⟨y,e,e2⟩
  ·cases k<;>simp[e,Rd.Runs]at h
  ·rw[e]at h;rw[e2];exact h
theorem EQ (hT:bK P T){o:Oper}{t:TypeId}{m k v:Operand}{ls:List Loc}{ws:List W}(ho:o.op=.mapUpdate t m k v)(hd:o.dst=none)(h:(sf oW (lk T.mpL) t m k v).Runs g ls (.ws ws)):hD P n o g ls ws:=by
 refine .inr (.inr (.inr ⟨sf oW (D6 P) t m k v,?_,?_⟩))
 ·intro cx G g a w ls ws hn hS h K Q hk;subst hn;exact Cd ho hd hS h hk
 ·unfold sf at h ⊢;rcases hT.mp t with e|⟨y,e,e2⟩
  ·simp[e,Rd.Runs]at h
  ·rw[e]at h;rw[e2];exact h
theorem Bg (hT:bK P T){o:Oper}{t:TypeId}{m k:Operand}{ls:List Loc}{ws:List W}(ho:o.op=.mapEntry t m k)(h:(lJ mgbI jZ oW (lk T.mpL) n o.dst t m k).Runs g ls (.ws ws)):hD P n o g ls ws:=by
 refine .inr (.inr (.inr ⟨lJ mgbI jZ oW (D6 P) n o.dst t m k,?_,?_⟩))
 ·intro cx G g a w ls ws hn hS h K Q hk;subst hn;exact yk ho hS h hk
 ·unfold lJ at h ⊢;rcases hT.mp t with e|⟨y,e,e2⟩
  ·simp[e,Rd.Runs]at h
  ·rw[e]at h;rw[e2];exact h
theorem v8 (hT:bK P T){o:Oper}{t:TypeId}{m s x:Operand}{ls:List Loc}{ws:List W}(ho:o.op=.entryStore t m s x)(hd:o.dst=none)(h:(iH oW (lk T.mpL) t m s x).Runs g ls (.ws ws)):hD P n o g ls ws:=by
 refine .inr (.inr (.inr ⟨iH oW (D6 P) t m s x,?_,?_⟩))
 ·intro cx G g a w ls ws hn hS h K Q hk;subst hn;exact uF ho hd hS h hk
 ·unfold iH at h ⊢;rcases hT.mp t with e|⟨y,e,e2⟩
  ·simp[e,Rd.Runs]at h
  ·rw[e]at h;rw[e2];exact h
theorem Ka {tk:∀ {β:Type},List (Option Nat)->List A->(List (L×Option Nat)->List (Nat×Nat)->Rd β)->Rd β}(hT:bK P T)(htk:∀ {β:Type}, @tk β= @dj β){α:Type}{t:TypeId}{x:Operand}{k' k:DV->List (Nat×Nat)->Rd α}{y:α}{ls:List Loc} 
 (hk:∀ d s ls,(k' d s).Runs g ls y->(k d s).Runs g ls y) (h:(J9 tk (lk T.tyL) t x k').Runs g ls y):(J9 dj (mY P) t x k).Runs g ls y:=by
 unfold J9 at h ⊢;rcases hT.ty t with e|⟨ti,e,e2⟩
 ·rw[e]at h;exact h.elim
 ·rw[e]at h;rw[e2];refine tZ ?_ h;intro v ls h;cases v with
  | one a=>
    simp only[htk]at h ⊢;split at h
    ·exact h.elim
    ·rename_i hag;rw[VT hag];refine jr ?_ h;intro lts src ls h;split at h
     ·exact hk _ _ _ h
     ·exact h.elim
  | agg as=>
    simp only[htk]at h ⊢;split at h
    ·rename_i hag;rw[VR hag];refine jr ?_ h;intro lts src ls h;exact hk _ _ _ h
    ·exact h.elim
  |tup rs=>exact h.elim
theorem A4 {tk:∀ {β:Type},List (Option Nat)->List A->(List (L×Option Nat)->List (Nat×Nat)->Rd β)->Rd β}(hT:bK P T)(htk:∀ {β:Type}, @tk β= @dj β){α:Type}:∀ {ts:List TypeId} {xs:List Operand} {k' k:List DV->List (Nat×Nat)->Rd α} {y:α} {ls:List Loc},
 (∀ d s ls,(k' d s).Runs g ls y->(k d s).Runs g ls y)->(A3 tk (lk T.tyL) ts xs k').Runs g ls y->(A3 dj (mY P) ts xs k).Runs g ls y
 |[],[],k',k,y,ls,hk,h=>hk _ _ _ h
 |[],_::_,k',k,y,ls,hk,h=>h.elim
 |_::_,[],k',k,y,ls,hk,h=>h.elim
 | t::ts,x::xs,k',k,y,ls,hk,h=>by
   simp only[A3]at h ⊢;refine Ka hT htk ?_ h;intro d s ls h;exact A4 hT htk (fun d s ls h=>hk _ _ _ h) h
theorem Gl (hT:bK P T){o:Oper}{c:Call}{f:FuncId}{mk:SB}{ls:List Loc}{ws:List W}(e1:o.op=.call c)(e2:c.callee=.value (.func f))(hmk:∀ ds pre res,mk ds=some (pre,res)->pre ()->GX P f ds res) 
 (h:(v7 (fun {β}=>kj ai (α:=β)) (lk T.tyL) ou n o.dst (lk T.fnL f).isSome c.argTypes c.args mk (gN ai)).Runs g ls (.ws ws)):hD P n o g ls ws:=by
 refine .inr (.inr (.inr ⟨v7 dj (mY P) ou n o.dst (eG P f) c.argTypes c.args mk d6,?_,?_⟩))
 ·intro cx G g a w ls ws hn hS h K Q hk;subst hn;obtain⟨cal,as,ats⟩:=c;simp only at e2;subst e2;exact EH e1 hS hmk h hk
 ·unfold v7 at h ⊢;rcases hT.fn f with e|⟨_,e,e3⟩
  ·rw[e]at h;exact h.elim
  ·rw[VR e3];rw[VR (by rw[e];rfl)]at h;rw[show gN ai=d6 from by funext d res;exact lI d res]at h;exact A4 hT (by intro β;funext sl as k;exact kn sl as k) (fun _ _ _ h=>h) h
theorem Mo (b:Bool):mmO ai b=vL b:=by
 funext vs
 match vs with
 |[]=>rfl
 |[x]=>cases x<;>rfl
 | [x,y]=>
   cases x<;>cases y<;>first|rfl|skip
   rename_i k a k' b';simp only[mmO,vL];by_cases e:k=k'
   ·subst e;simp only[beq_self_eq_true,if_true];rfl
   ·simp[e]
 |x::y::z::vs=>cases x<;>cases y<;>rfl
theorem ND (hT:bK P T){ct:Ig}(hct:yG P ct){o:Oper}{ls:List Loc}{ws:List W}(h:(te T ai ct n o).Runs g ls (.ws ws)):hD P n o g ls ws:=by
 by_cases hc:∃ c f,o.op=.call c/\c.callee=.value (.func f)
 ·obtain⟨c,f,e1,e2⟩:=hc;unfold te at h;simp only[e1,e2]at h;cases hnw:ct.nw f with
  | some mk=>
    simp only[hnw]at h;exact h.elim
  |none=>
  simp only[hnw]at h;cases htk:ct.tk f with
  | some mk=>
    simp only[htk]at h;exact Gl hT e1 e2 (hct.2.2.2.2 f mk htk) h
  |none=>
  simp only[htk]at h;cases hpt:ct.pt f with
  | some mk=>
    simp only[hpt]at h;exact Gj hT (by unfold kz;simp only[e1,e2]) (hct.2.2.1 f mk hpt) h
  |none=>
  simp only[hpt]at h;cases hmu:ct.mu f with
  | none=>
    simp only[hmu]at h;exact H7 hT hct (by unfold kz;simp only[e1,e2]) h
  | some mk=>
    simp only[hmu]at h;exact Gi hT (by unfold kz;simp only[e1,e2]) (hct.2.1 f mk hmu) h
 by_cases hc2:∃ c t,o.op=.call c/\c.callee=.value (.tmp t)
 ·obtain⟨c,t,e1,e2⟩:=hc2;unfold te at h;simp only[e1,e2]at h;exact Gn hT hct (by rw[e1];obtain⟨cal,as,ats⟩:=c;simp only at e2;rw[e2]) h
 by_cases hsl:∃ t x lo hi mx,o.op=.slice t x lo hi mx
 ·obtain⟨t,x,lo,hi,mx,e1⟩:=hsl;unfold te at h;simp only[e1]at h;exact ET hT e1 h
 by_cases hst:∃ t x y,o.op=.store t x y
 ·obtain⟨t,x,y,e1⟩:=hst;unfold te at h;simp only[e1]at h;split at h
  ·rename_i hd;exact EV hT e1 hd h
  ·exact h.elim
 by_cases hmk:∃ t r,o.op=.makeMap t r
 ·obtain⟨t,r,e1⟩:=hmk;unfold te at h;simp only[e1]at h;exact Cc hT e1 h
 by_cases hfi:∃ t x f,o.op=.field t x f
 ·obtain⟨t,x,f,e1⟩:=hfi;unfold te at h;simp only[e1]at h;exact Gr hT e1 h
 by_cases hrg:∃ t x,o.op=.range t x
 ·obtain⟨t,x,e1⟩:=hrg;unfold te at h;simp only[e1]at h;exact Gw hT e1 h
 by_cases hen:∃ x,o.op=.entry x
 ·obtain⟨x,e1⟩:=hen;unfold te at h;simp only[e1]at h;exact Gq e1 h
 by_cases hlo:∃ t x i k,o.op=.lookup t x i k
 ·obtain⟨t,x,i,k,e1⟩:=hlo;unfold te at h;simp only[e1]at h;exact EL hT e1 h
 by_cases hme:∃ t m k,o.op=.mapEntry t m k
 ·obtain⟨t,m,k,e1⟩:=hme;unfold te at h;simp only[e1]at h;exact Bg hT e1 h
 by_cases hes:∃ t m s x,o.op=.entryStore t m s x
 ·obtain⟨t,m,s,x,e1⟩:=hes;unfold te at h;simp only[e1]at h;split at h
  ·rename_i hd;exact v8 hT e1 hd h
  ·exact h.elim
 by_cases hup:∃ t m k v,o.op=.mapUpdate t m k v
 ·obtain⟨t,m,k,v,e1⟩:=hup;unfold te at h;simp only[e1]at h;split at h
  ·rename_i hd;exact EQ hT e1 hd h
  ·exact h.elim
 ·refine .inl ⟨?_,?_⟩
  ·unfold kz;split
   ·rename_i c e1;split
    ·rename_i f e2;exact absurd ⟨c,f,e1,e2⟩ hc
    ·rfl
   ·rfl
  ·unfold te at h;unfold vop;generalize hop:o.op=op at h hc hc2 hmk hfi hrg hen hlo hme hes hup hsl hst ⊢;cases op with
   |makeMap t r=>exact absurd ⟨t,r,rfl⟩ hmk
   |field t x f=>exact absurd ⟨t,x,f,rfl⟩ hfi
   |range t x=>exact absurd ⟨t,x,rfl⟩ hrg
   |entry x=>exact absurd ⟨x,rfl⟩ hen
   |lookup t x i k=>exact absurd ⟨t,x,i,k,rfl⟩ hlo
   |mapUpdate t m k v=>exact absurd ⟨t,m,k,v,rfl⟩ hup
   |mapEntry t m k=>exact absurd ⟨t,m,k,rfl⟩ hme
   |entryStore t m s x=>exact absurd ⟨t,m,s,x,rfl⟩ hes
   | call c=>
     simp only at h ⊢;cases hcal:c.callee with
     | value x=>
       cases x with
       |func f=>exact absurd ⟨c,f,rfl,hcal⟩ hc
       |tmp t=>exact absurd ⟨c,t,rfl,hcal⟩ hc2
       |_=>simp only[hcal]at h;exact h.elim
     | builtin b=>
       simp only[hcal]at h ⊢;cases b with
       | len=>
         simp only at h ⊢;split at h
         ·rename_i x t e1 e2;simp only[e1,e2];rcases hT.sl t with e|⟨_,e,e3⟩
          ·simp[e,Rd.Runs]at h
          simp only[e,e3,Vj,if_true]at h ⊢;refine eX ?_ h;intro a ls h;exact L6 h
         ·exact h.elim
       | append=>
         simp only at h ⊢;split at h
         ·rename_i e1 e2;simp only[e1,e2];exact Gf hT h
         ·exact h.elim
       |min=>simp only[Mo]at h ⊢;exact h
       |max=>simp only[Mo]at h ⊢;exact h
       |_=>exact h
     |_=>simp only[hcal]at h;exact h.elim
   |box t x=>exact NB hT h
   |alloc t=>exact H0 hT h
   |build t parts=>exact H3 hT h
   |fieldAddr s x f=>exact Bd hT h
   |buildSlice t len parts=>exact yj hT h
   |load t x=>exact Kf hT h
   |store t x y=>exact absurd ⟨t,x,y,rfl⟩ hst
   |indexAddr t x i=>exact Be hT h
   |binOp op t x y t'=>exact Ny hT h
   |unOp op t x=>exact P2 h
   |makeSlice t l c=>exact Kg hT h
   |slice t x lo hi mx=>exact absurd ⟨t,x,lo,hi,mx,rfl⟩ hsl
   |assign x=>exact h
   |pick c a b=>exact h
   | convert s t x=>
     simp only at h ⊢;refine sR ?_ h;intro _ a ls h;rcases hT.it s with e|⟨k1,e,e3⟩
     ·simp[e,Rd.Runs]at h
     rcases hT.it t with f|⟨k2,f,f3⟩
     ·simp[e,f,Rd.Runs]at h
     simp only[e,e3,f,f3]at h ⊢;exact h
   |_=>exact h
end
end Go.V
namespace Go.V
def K4 (b:Bool)(A B:Unit->Prop):Prop:=(Vk (motive:=fun _=>Unit->Prop) B A b:Unit->Prop) ()
theorem bG {b:Bool}{A B:Unit->Prop}(h1:b=true->A ())(h2:b=false->B ()):(Vk (motive:=fun _=>Unit->Prop) B A b:Unit->Prop) ():=by
 cases b with
 |true=>exact h1 rfl
 |false=>exact h2 rfl
def Rd.wpU {α:Type}(g:Gm):Rd α->List Loc->(List Loc->α->Prop)->Prop
 | .fail,_,_=>False
 | .ret a,t,K=>K t a
 | .get l k,t,K=>(k (g l)).wpU g (l::t) K
 | .req c k,t,K=>c/\k.wpU g t K
 | .br b k1 k2,t,K=>K4 b (fun _=>k1.wpU g t K) (fun _=>k2.wpU g t K)
theorem Rd.wpU_runs {α:Type}{g:Gm}:∀ {rd:Rd α} {t:List Loc} {K:List Loc->α->Prop},rd.wpU g t K->∃ ls x t',rd.Runs g ls x/\K t' x/\(∀ l∈ls,l∈t')/\(∀ l∈t,l∈t')
 | .fail,_,_,h=>h.elim
 | .ret b,t,_,h=>⟨[],b,t,⟨rfl,rfl⟩,h,by simp,fun _ h=>h⟩
 | .get l k,t,_,h=>by
   obtain⟨ls,x,t',h1,h2,h3,h4⟩:=Rd.wpU_runs (rd:=k (g l)) h;refine⟨l::ls,x,t',⟨ls,rfl,h1⟩,h2,?_,fun y hy=>h4 y (by simp[hy])⟩;intro y hy;rcases Zn.1 hy with rfl|hy;exact h4 _ (by simp);exact h3 _ hy
 | .req c k,t,_,h=>by
   obtain⟨ls,x,t',h1,h2,h3⟩:=Rd.wpU_runs (rd:=k) h.2;exact⟨ls,x,t',⟨h.1,h1⟩,h2,h3⟩
 | .br b k1 k2,t,_,h=>by
   cases b with
   |true=>obtain⟨ls,x,t',h1,h2⟩:=Rd.wpU_runs (rd:=k1) h;exact⟨ls,x,t',.inl ⟨rfl,h1⟩,h2⟩
   |false=>obtain⟨ls,x,t',h1,h2⟩:=Rd.wpU_runs (rd:=k2) h;exact⟨ls,x,t',.inr ⟨rfl,h1⟩,h2⟩
theorem Rd.Runs_congr {α:Type}{g g':Gm}:∀ {rd:Rd α} {ls:List Loc} {x:α},rd.Runs g ls x->(∀ l∈ls,g' l=g l)->rd.Runs g' ls x
 | .fail,_,_,h,_=>h
 | .ret b,_,_,h,_=>h
 | .get l k,_,_,h,hg=>by
   obtain⟨ls',e,h⟩:=h;subst e;refine⟨ls',rfl,?_⟩;rw[hg l (by simp)];exact Rd.Runs_congr h (fun y hy=>hg y (by simp[hy]))
 | .req c k,_,_,h,hg=>⟨h.1,Rd.Runs_congr h.2 hg⟩
 | .br b k1 k2,_,_,h,hg=>by
   rcases h with⟨e,h⟩|⟨e,h⟩;exact .inl ⟨e,Rd.Runs_congr h hg⟩;exact .inr ⟨e,Rd.Runs_congr h hg⟩
def Jx (n:Nat)(o:Oper)(ws:List W):Prop:=
 match o.dst with
 |some d=>d<n/\ws=[.reg d (.one (.v undef))]
 |none=>ws=[]
def C4 (P:Program)(n:Nat)(all:Array Oper)(o:Oper)(g:Gm)(t:List Loc)(ws:List W):Prop:=
 ∃ ls b,(Ap all o).Runs g ls b/\(∀ l∈ls,l∈t)/\
  ((b=true/\∃ ls2,hD P n o g ls2 ws/\∀ l∈ls2,l∈t)\/(b=false/\Jx n o ws))
theorem hD.congr {P:Program}{n:Nat}{o:Oper}{g g':Gm}{ls:List Loc}{ws:List W}(h:hD P n o g ls ws)(hg:∀ l∈ls,g' l=g l):hD P n o g' ls ws:=by
 rcases h with⟨h1,h2⟩|⟨f,ts,args,ds,mk,res,h1,h2,h3,h4⟩|⟨f,ts,args,mk,h1,h2,h3⟩|⟨rd,h1,h2⟩;exact .inl ⟨h1,Rd.Runs_congr h2 hg⟩;exact .inr (.inl ⟨f,ts,args,ds,mk,res,h1,Rd.Runs_congr h2 hg,h3,h4⟩);exact .inr (.inr (.inl ⟨f,ts,args,mk,h1,h2,Rd.Runs_congr h3 hg⟩));exact .inr (.inr (.inr ⟨rd,h1,Rd.Runs_congr h2 hg⟩))
theorem C4.congr {P:Program}{n:Nat}{all:Array Oper}{o:Oper}{g g':Gm}{t:List Loc}{ws:List W}(h:C4 P n all o g t ws)(hg:∀ l∈t,g' l=g l):C4 P n all o g' t ws:=by
 obtain⟨ls,b,h1,h2,h3⟩:=h;refine⟨ls,b,Rd.Runs_congr h1 (fun l hl=>hg l (h2 l hl)),h2,?_⟩;rcases h3 with⟨e,ls2,h4,h5⟩|h3;exact .inl ⟨e,ls2,h4.congr (fun l hl=>hg l (h5 l hl)),h5⟩;exact .inr h3
section
variable {P: Program} {cx: Cx} {a: Act} {w: World}
theorem hD.sound {o:Oper}{g:Gm}{ls:List Loc}{ws:List W}(h:hD P cx.n o g ls ws)(hS:gw cx g a w){K:Act->World->Prop}{Q:Exit->Act->World->Prop} 
 (hk:∀ a' w',gw cx (bz g ws) a' w'->K a' w'):o.wp P a w K Q:=by
 obtain⟨G,hS⟩:=hS;rcases h with⟨_,h2⟩|⟨f,ts,args,ds,mk,res,h1,h2,h3,rfl⟩|⟨f,ts,args,mk,h1,h2,h3⟩|⟨rd,h1,h2⟩;exact Ki hS h2 hk;exact Gp (qK h1) hS h2 h3 hk;exact EF (qK h1) hS h3 h2 hk;exact h1 cx G g a w _ _ rfl hS h2 K Q hk
theorem C4.sound {all:Array Oper}{o:Oper}{g:Gm}{t:List Loc}{ws:List W}(h:C4 P cx.n all o g t ws)(hS:gw cx g a w){K:Act->World->Prop}{Q:Exit->Act->World->Prop} 
 (hk:∀ a' w',gw cx (bz g ws) a' w'->K a' w'):
 if Region.wanted o (yielded all a.tmps)then o.wp P a w K Q\/(o.asks P a w/\LetsOut Q)else K (a.put o.dst undef) w:=by
 obtain⟨ls,b,h1,_,h3⟩:=h;obtain⟨G,hG⟩:=id hS;have hw:=DI hG h1;rcases h3 with⟨rfl,ls2,h4,_⟩|⟨rfl,h3⟩
 ·rw[VR hw];exact .inl (h4.sound hS hk)
 ·rw[VT (by rw[hw];simp)];unfold Jx at h3;cases hd:o.dst with
  | none=>
    simp only[hd]at h3;subst h3;exact hk _ _ (by simpa[ZS,bz]using hS)
  | some d=>
    simp only[hd]at h3;obtain⟨hlt,rfl⟩:=h3;refine hk _ _ ⟨G,?_⟩;exact hG.put hlt (by simp[da,j7])
end
inductive WK where
 |reg (d:Nat)
 |leaf (r j:Nat)
 |root (r:Nat)
def keyOf:W->WK
 | .reg d _=>.reg d
 | .leaf r j _=>.leaf r j
 | .root r _ _=>.root r
abbrev Tr :=List (List Loc×List WK)
def Hh (all:Array Oper)(o:Oper)(σ:VS)(K:VS->List Loc->Bool->Prop):Prop:=
 match o.guard with
 |none=>K σ [] true
 | some (j,want)=>match all[j]? with
   | some o'=>match o'.dst with
     | some d=>match get σ (.reg d)with
       |some (.r (.one (.v (.bool b))))=>K4 b (fun _=>K (.reg d (.k true)::σ) [.reg d] (true==want)) (fun _=>K (.reg d (.k false)::σ) [.reg d] (false==want))
       |some (.r (.one (.v (.tuple _))))=>K σ [.reg d] false
       |_=>False
     |none=>False
   |none=>False
section
variable (T: yN) (O: GZ) (ct: Ig) (n: Nat)
def CZ (all:Array Oper):List Oper->VS->Tr->(VS->Tr->Prop)->Prop
 |[],σ,acc,K=>K σ acc
 | o::rest,σ,acc,K=>Hh all o σ fun σ t b=>match b with
   | true=>(te T O ct n o).wpU (get σ) t fun t out=>match out with
     | .ws ws=>CZ all rest (push σ ws) ((t,ws.map keyOf)::acc) K
     | .call _ _ _=>False
   | false=>match o.dst with
     |some d=>if d<n then CZ all rest (.reg d (.one (.v undef))::σ) ((t,[.reg d])::acc) K else False
     |none=>CZ all rest σ ((t,[])::acc) K
end
inductive Kl (P:Program)(n:Nat)(all:Array Oper):List Oper->Gm->List (List Loc×List W)->Gm->Prop where
 |nil (g:Gm):Kl P n all [] g [] g
 |cons {o:Oper} {rest:List Oper} {g g':Gm} {t:List Loc} {ws:List W} {xs:List (List Loc×List W)}:C4 P n all o g t ws->Kl P n all rest (bz g ws) xs g'->Kl P n all (o::rest) g ((t,ws)::xs) g'
theorem Fx {σ:VS}{d:Nat}{x:R}(h:get σ (.reg d)=some (.r x)):get (.reg d x::σ)=get σ:=by
 funext l
 simp only[get,W.app];split
 ·rename_i e;rw[e,h]
 ·rfl
theorem Fz {all:Array Oper}{o:Oper}{σ:VS}{K:VS->List Loc->Bool->Prop}(h:Hh all o σ K):
 ∃ σ1 t b,get σ1=get σ/\(Ap all o).Runs (get σ) t b/\K σ1 t b:=by
 unfold Hh at h;unfold Ap;cases hg:o.guard with
 |none=>simp only[hg]at h;exact⟨σ,[],true,rfl,⟨rfl,rfl⟩,h⟩
 | some jw=>
   obtain⟨j,want⟩:=jw;simp only[hg]at h ⊢;cases ho:all[j]? with
   |none=>simp[ho]at h
   | some o'=>
     simp only[ho,YI]at h ⊢;cases hd:o'.dst with
     |none=>simp[hd]at h
     | some d=>
       simp only[hd]at h ⊢;cases hx:get σ (.reg d)with
       |none=>simp[hx]at h
       | some v=>
         cases v with
         |h x=>simp[hx]at h
         |m a b=>simp[hx]at h
         | r x=>cases x with
           |agg as=>simp[hx]at h
           |tup rs=>simp[hx]at h
           | one a=>cases a with
             | v y=>cases y with
               | bool b=>
                 simp only[hx]at h;cases b with
                 |true=>exact⟨_,_,_,Fx hx,by simp[HR,rd,Rd.Runs,hx],h⟩
                 |false=>exact⟨_,_,_,Fx hx,by simp[HR,rd,Rd.Runs,hx],h⟩
               | tuple vs=>
                 simp only[hx]at h;exact⟨σ,_,_,rfl,by simp[HR,rd,Rd.Runs,hx],h⟩
               |_=>simp[hx]at h
             |_=>simp[hx]at h
theorem sg {P:Program}{T:yN}(hT:bK P T){ct:Ig}(hct:yG P ct){n:Nat}{all:Array Oper}:∀ (ops:List Oper) (σ:VS) (acc:Tr) (K:VS->Tr->Prop),CZ T ai ct n all ops σ acc K->
 ∃ xs σ',Kl P n all ops (get σ) xs (get σ')/\K σ' ((xs.map fun x=>(x.1,x.2.map keyOf)).reverse++acc)
 |[],σ,acc,K,h=>⟨[],σ,.nil _,h⟩
 | o::rest,σ,acc,K,h=>by
   simp only[CZ]at h;obtain⟨σ1,t,b,e1,h1,h2⟩:=Fz h;cases b with
   | true=>
     simp only at h2;obtain⟨ls2,out,t2,k1,k2,k3,k4⟩:=Rd.wpU_runs h2;cases out with
     |call f ds mk=>exact k2.elim
     | ws ws=>
       simp only at k2;obtain⟨xs,σ',m1,m2⟩:=sg hT hct rest _ _ _ k2;rw[Al]at m1;rw[e1]at m1 k1;refine⟨(t2,ws)::xs,σ',.cons ⟨t,true,h1,fun l hl=>k4 l hl,.inl ⟨rfl,ls2,ND hT hct k1,k3⟩⟩ m1,?_⟩
       simpa using m2
   | false=>
     simp only at h2;cases hd:o.dst with
     | none=>
       simp only[hd]at h2;obtain⟨xs,σ',m1,m2⟩:=sg hT hct rest _ _ _ h2;rw[e1]at m1;refine⟨(t,[])::xs,σ',.cons ⟨t,false,h1,fun l hl=>hl,.inr ⟨rfl,by simp[Jx,hd]⟩⟩ m1,?_⟩
       simpa using m2
     | some d=>
       simp only[hd]at h2;split at h2
       ·rename_i hlt;obtain⟨xs,σ',m1,m2⟩:=sg hT hct rest _ _ _ h2;have e2:get (W.reg d (.one (.v undef))::σ1)=bz (get σ) [W.reg d (.one (.v undef))]:=by
         simp only[get,bz,e1]
        rw[e2]at m1;refine⟨(t,[.reg d (.one (.v undef))])::xs,σ',.cons ⟨t,false,h1,fun l hl=>hl,.inr ⟨rfl,by simp[Jx,hd,hlt]⟩⟩ m1,?_⟩
        simpa[keyOf]using m2
       ·exact h2.elim
theorem Kl.text {P:Program}{cx:Cx}{all:Array Oper}{Q:Exit->Act->World->Prop}:∀ {ops:List Oper} {g g':Gm} {xs:List (List Loc×List W)} {a:Act} {w:World},Kl P cx.n all ops g xs g'->gw cx g a w->
 (∀ a' w',gw cx g' a' w'->Q .normal a' w')->wpList P all Q ops a w
 |_,_,_,_,a,w,.nil g,hS,hk=>hk a w hS
 | _,_,_,_,a,w,.cons he hr,hS,hk=>by
   simp only[wpList];exact he.sound hS (fun a' w' hs=>hr.text hs hk)
end Go.V
namespace Go.V
def WK.hits:WK->Loc->Bool
 | .reg d,.reg d'=>d.beq d'
 | .leaf r j,.leaf r' j'=>r.beq r'&&j.beq j'
 | .root r,.leaf r' _=>r.beq r'
 | .root r,.meta_ r'=>r.beq r'
 |_,_=>false
def WK.clash:WK->WK->Bool
 | .reg d,.reg d'=>d.beq d'
 | .leaf r j,.leaf r' j'=>r.beq r'&&j.beq j'
 | .root r,.leaf r' _=>r.beq r'
 | .leaf r _,.root r'=>r.beq r'
 | .root r,.root r'=>r.beq r'
 |_,_=>false
theorem La {k k':WK}{l:Loc}(h:k.hits l=true)(h':k'.hits l=true):k.clash k'=true:=by
 cases k<;>cases k'<;>cases l<;>simp_all [WK.hits,WK.clash]
theorem uO {g:Gm}{x:W}{l:Loc}(h:(keyOf x).hits l=false):x.app g l=g l:=by
 cases x<;>cases l<;>simp only[keyOf,WK.hits,W.app]at h ⊢ <;>first|rfl|(rw[VT];intro e;cases e;simp at h)|(rw[VT];intro e;subst e;simp at h)
theorem Im {g g':Gm}{x:W}{l:Loc}(h:(keyOf x).hits l=true):x.app g l=x.app g' l:=by
 cases x<;>cases l<;>simp_all [keyOf,WK.hits,W.app]
def eI (ws:List W)(l:Loc):Bool:=ws.any fun x=>(keyOf x).hits l
theorem sJ {l:Loc}:∀ {ws:List W} {g:Gm},eI ws l=false->bz g ws l=g l
 |[],_,_=>rfl
 | x::ws,g,h=>by
   simp only[eI,Vl,Vm]at h;simp only[bz];rw[sJ (ws:=ws) h.2,uO h.1]
theorem Dg {l:Loc}:∀ {ws:List W} {g g':Gm},g l=g' l->bz g ws l=bz g' ws l
 |[],_,_,h=>h
 | x::ws,g,g',h=>by
   simp only[bz];refine Dg (ws:=ws) ?_;cases hx:(keyOf x).hits l with
   |true=>exact Im hx
   |false=>rw[uO hx,uO hx,h]
theorem E8 {l:Loc}:∀ {ws:List W} {g g':Gm},eI ws l=true->bz g ws l=bz g' ws l
 |[],_,_,h=>by simp[eI]at h
 | x::ws,g,g',h=>by
   simp only[eI,Vl,Z7]at h;simp only[bz];cases hx:(keyOf x).hits l with
   |true=>exact Dg (Im hx)
   | false=>
     rw[hx]at h;exact E8 (h.resolve_left (by simp))
def sel (dI:Nat->List W)(p:Nat->Bool)(m:Nat):List W:=((Zl m).filter p).flatMap dI
theorem rI (dI:Nat->List W)(l:Loc):∀ (is:List Nat) (g:Gm),bz g (is.flatMap dI) l=bz g ((is.filter fun i=>eI (dI i) l).flatMap dI) l
 |[],g=>rfl
 | i::is,g=>by
   simp only[YL,List.filter_cons,cL];cases h:eI (dI i) l with
   |true=>simp only[if_true,YL,cL];exact rI dI l is _
   | false=>
     simp only[Yj,if_false];rw[<-rI dI l is g];exact Dg (sJ h)
theorem vV {dI:Nat->List W}{p q:Nat->Bool}{m:Nat}{l:Loc}{g:Gm}(h:∀ i,i<m->eI (dI i) l=true->p i=q i):bz g (sel dI p m) l=bz g (sel dI q m) l:=by
 unfold sel;rw[rI,rI dI l ((Zl m).filter q)];have e:((Zl m).filter p).filter (fun i=>eI (dI i) l)=((Zl m).filter q).filter (fun i=>eI (dI i) l):=by
  rw[Ww,Ww];refine XV ?_;intro i hi;rw[Yc]at hi;cases ht:eI (dI i) l with
  |true=>simp[h i hi ht]
  |false=>simp
 rw[e]
theorem Nf {dI:Nat->List W}{q:Nat->Bool}{m j:Nat}{l:Loc}{g g':Gm}(hj:j<m)(hq:q j=true)(ht:eI (dI j) l=true)(h:∀ i,j<i->i<m->eI (dI i) l=true->q i=false):
 bz g (sel dI q m) l=bz g' (dI j) l:=by
 have e:bz g (sel dI q m) l=bz g (sel dI (fun i=>q i&&decide (i<=j)) m) l:=by
  refine vV ?_;intro i hi hti;rcases Z3 j i with c|c
  ·rw[h i c hi hti];rfl
  ·simp[c]
 rw[e];have hs:(Zl m).filter (fun i=>q i&&decide (i<=j))=((Zl j).filter q)++[j]:=by
  have:Zl m=Zl j++[j]++(Zl (m- (j+1))).map (fun x=>(j+1)+x):=by
   have e1:Zl (j+1+(m- (j+1)))=Zl (j+1)++(Zl (m- (j+1))).map (fun x=>(j+1)+x):=Wk;rw[show j+1+(m- (j+1))=m from by omega]at e1;rw[e1,Vn]
  rw[this,Wx,Wx];have e2:(List.map (fun x=>j+1+x) (Zl (m- (j+1)))).filter (fun i=>q i&&decide (i<=j))=[]:=by
   rw[XW];intro a ha;obtain⟨x,_,rfl⟩:=ZQ.1 ha;simp;intro _;omega
  have e3:(Zl j).filter (fun i=>q i&&decide (i<=j))=(Zl j).filter q:=by
   refine XV ?_;intro i hi;rw[Yc]at hi;simp[Nat.le_of_lt hi]
  rw[e2,e3];simp[hq]
 unfold sel;rw[hs,Wy,cL];simp only[YL,List.flatMap_nil,Z2];exact E8 ht
def rS (o:Oper):List Nat:=o.after.toList.filterMap fun e=>if Vo .any e then some e.on else none
def AA (ms:List Nat):List Nat->Nat
 |[]=>0
 |p::ps=>(1<<<p)|||(ms.getD p 0|||AA ms ps)
def FM:List (List Nat)->List Nat->List Nat
 |[],acc=>acc
 |ds::rest,acc=>FM rest (acc++[AA acc ds])
def rR (x y:List Loc×List WK):Bool:=
 x.2.any fun k=>y.1.any (fun l=>k.hits l)||y.2.any (fun k'=>k.clash k')
def rn (x y:List Loc×List WK):Bool:=y.2.any fun k=>x.1.any fun l=>k.hits l
def Jc (mask:Nat)(y:List Loc×List WK):Nat->Tr->Bool
 |_,[]=>true
 |i,x::xs=>(mask.testBit i|| !(rR x y||rn x y))&&Jc mask y (i+1) xs
def AK:List Nat->Tr->Tr->Bool
 |m::ms,xs,y::ys=>Jc m y 0 xs&&AK ms (xs++[y]) ys
 |[],_,[]=>true
 |_,_,_=>false
def D9:Nat->List (List Nat)->Bool
 |_,[]=>true
 |i,ds::rest=>ds.all (fun p=>p.blt i)&&D9 (i+1) rest
def aP (ops:Array Oper)(tr:Tr):Bool:=
 let ps:=ops.toList.map rS
 D9 0 ps&&AK (FM ps []) [] tr
end Go.V
namespace Go.V
theorem Kl.at {P:Program}{n:Nat}{all:Array Oper}:∀ {ops:List Oper} {g g':Gm} {xs:List (List Loc×List W)},Kl P n all ops g xs g'->
 xs.length=ops.length/\g'=bz g (xs.flatMap (·.2))/\∀ j o,ops[j]?=some o->∃ t ws,xs[j]?=some (t,ws)/\C4 P n all o (bz g ((xs.take j).flatMap (·.2))) t ws
 |_,_,_,_,.nil g=>⟨rfl,rfl,fun j o h=>by simp at h⟩
 | _,_,_,_,.cons (t:=t) (ws:=ws) he hr=>by
   obtain⟨h1,h2,h3⟩:=Kl.at hr;refine⟨by simp[h1],by rw[h2];simp[cL],?_⟩;intro j o h;cases j with
   |zero=>simp at h;subst h;exact⟨t,ws,rfl,by simpa[bz]using he⟩
   | succ j=>
     simp at h;obtain⟨t',ws',e1,e2⟩:=h3 j o h;exact⟨t',ws',by simpa using e1,by simpa[cL]using e2⟩
theorem vY (xs:List (List Loc×List W)):∀ j,j<=xs.length->(xs.take j).flatMap (·.2)=(Zl j).flatMap fun i=>(xs.getD i ([],[])).2
 |0,_=>rfl
 | j+1,h=>by
   rw[List.take_succ,Vn,Wy,Wy,vY xs j (by omega)]
   congr 1
   rw[Zu (by omega)];simp[Zu (show j<xs.length by omega)]
theorem yf {m j:Nat}(h:j<=m):(Zl m).filter (fun i=>decide (i<j))=Zl j:=by
 have e1:Zl (j+(m-j))=Zl j++(Zl (m-j)).map (fun x=>j+x):=Wk;rw[show j+(m-j)=m from by omega]at e1;rw[e1,Wx];have e2:((Zl (m-j)).map (fun x=>j+x)).filter (fun i=>decide (i<j))=[]:=by
  rw[XW];intro a ha;obtain⟨x,_,rfl⟩:=ZQ.1 ha;simp
 rw[e2,Z2];exact Vp.2 (fun a ha=>by simpa using ha)
theorem AB {S:Nat->Prop}{pr:Nat->List Nat}(hcl:∀ k,S k->∀ p∈pr k,S p):∀ (rest:List (List Nat)) (acc:List Nat),
 (∀ k ds,rest[k]?=some ds->pr (acc.length+k)=ds)->
 (∀ j,j<acc.length->∀ i,(acc.getD j 0).testBit i=true->(∀ p∈pr j,S p)->S i)->
 ∀ j,j<(FM rest acc).length->∀ i,((FM rest acc).getD j 0).testBit i=true->(∀ p∈pr j,S p)->S i
 |[],acc,_,h=>h
 | ds::rest,acc,hp,h=>by
   simp only[FM];refine AB hcl rest _ ?_ ?_
   ·intro k ds' hk;have:=hp (k+1) ds' (by simpa using hk);simp only[Zd,Zp,Zs];rw[<-this];congr 1;omega
   ·intro j hj i hi hS;simp only[Zd,Zp,Zs]at hj;rcases Z3 j acc.length with c|c
    ·refine h j c i ?_ hS;rw[Zr,ZW c]at hi;rw[Zr];exact hi
    ·have hj':j=acc.length:=by omega
     subst hj';have e0:=hp 0 ds rfl;rw[Zi]at e0;rw[Zr,ZJ (Ze _)]at hi;simp only[Xd,List.getElem?_cons_zero,Z9]at hi;rw[e0]at hS;have key:∀ (ps:List Nat),(∀ p∈ps,S p)->(AA acc ps).testBit i=true->S i:=by
      intro ps
      induction ps with
      |nil=>intro _ hb;simp[AA]at hb
      | cons p ps ih=>
        intro hps hb;simp only[AA,Nat.testBit_or,Z7]at hb;rcases hb with hb|hb|hb
        ·rw[Nat.one_shiftLeft,Nat.testBit_two_pow]at hb;simp at hb;subst hb;exact hps _ (by simp)
        ·rcases Z3 p acc.length with c2|c2;exact h p c2 i hb (hcl p (hps p (by simp)))
         ·rw[Zr,ZY c2]at hb;simp at hb
        ·exact ih (fun q hq=>hps q (by simp[hq])) hb
     exact key ds hS hi
theorem AJ {mask:Nat}{y:List Loc×List WK}:∀ {xs:Tr} {i0:Nat},Jc mask y i0 xs=true->∀ i x,xs[i]?=some x->mask.testBit (i0+i)=true\/(rR x y=false/\rn x y=false)
 |[],_,_,i,x,hx=>by simp at hx
 | x0::xs,i0,h,i,x,hx=>by
   simp only[Jc,Zc,Z7,Y1,Vm]at h;cases i with
   |zero=>simp at hx;subst hx;exact h.1
   | succ i=>
     simp at hx;have:=AJ h.2 i x hx;rw[show i0+1+i=i0+(i+1)from by omega]at this;exact this
theorem wI:∀ {ms:List Nat} {xs ys:Tr},AK ms xs ys=true->∀ j y,ys[j]?=some y->∃ m,ms[j]?=some m/\∀ i x,(xs++ys)[i]?=some x->i<xs.length+j->m.testBit i=true\/(rR x y=false/\rn x y=false)
 |[],_,[],_,j,y,hy=>by simp at hy
 |_::_,_,[],_,j,y,hy=>by simp at hy
 |[],_,_::_,h,_,_,_=>by simp[AK]at h
 | m::ms,xs,y0::ys,h,j,y,hy=>by
   simp only[AK,Zc]at h;cases j with
   | zero=>
     simp at hy;subst hy;refine⟨m,rfl,?_⟩;intro i x hx hi;rw[ZW (by omega)]at hx;have:=AJ h.1 i x hx
     rwa [Zv]at this
   | succ j=>
     simp at hy;obtain⟨m',e1,e2⟩:=wI h.2 j y hy;refine⟨m',by simpa using e1,?_⟩;intro i x hx hi;refine e2 i x (by simpa using hx) (by simp;omega)
theorem wH:∀ {pss:List (List Nat)} {i0:Nat},D9 i0 pss=true->∀ i ps,pss[i]?=some ps->∀ p∈ps,p<i0+i
 |[],_,_,i,ps,h=>by simp at h
 | q::pss,i0,h,i,ps,hi=>by
   simp only[D9,Zc,Yt]at h;cases i with
   | zero=>
     simp at hi;subst hi;intro p hp;have:=h.1 p hp;have h2:p+1<=i0:=by simpa[Wz]using this
     omega
   | succ i=>
     simp at hi;intro p hp;have:=wH h.2 i ps hi p hp;omega
end Go.V
namespace Go.V
def rO (listed:Array Bool)(i:Nat):Bool:=listed.getD i false
theorem uf {listed:Array Bool}{i k:Nat}(hi:i<listed.size):rO (listed.setIfInBounds i true) k=(rO listed k||decide (k=i)):=by
 unfold rO;by_cases e:k=i
 ·subst e;simp[hi]
 ·rw[getD_set_ne false (Ne.symm e)];simp[e]
def rr (ops:Array Oper)(k:Nat):List Nat:=match ops[k]? with
 |some o=>rS o
 |none=>[]
theorem wE {o:Oper}{p:Nat}:p∈rS o↔∃ e∈o.after,Vo .any e=true/\e.on=p:=by
 unfold rS;simp only[List.mem_filterMap,Array.mem_toList_iff]
 constructor
 ·rintro⟨e,he,h⟩;split at h
  ·rename_i hb;cases h;exact⟨e,he,hb,rfl⟩
  ·cases h
 ·rintro⟨e,he,hb,rfl⟩;exact⟨e,he,by simp[hb]⟩
theorem rD {ws:List W}{l:Loc}:eI ws l=true↔∃ k∈ws.map keyOf,k.hits l=true:=by
 unfold eI;simp only[XX,ZQ]
 constructor
 ·rintro⟨x,h1,h2⟩;exact⟨_,⟨x,h1,rfl⟩,h2⟩
 ·rintro⟨k,⟨x,h1,rfl⟩,h2⟩;exact⟨x,h1,h2⟩
section
variable {P: Program} {cx: Cx} {ops: Array Oper} {Q: Exit -> Act -> World -> Prop} {g0 gm: Gm} {xs: List (List Loc × List W)}
theorem HI {tr:Tr}(hok:aP ops tr=true){j p:Nat}(hp:p∈rr ops j):p<j:=by
 simp only[aP,Zc]at hok;unfold rr at hp;cases ho:ops[j]? with
 |none=>simp[ho]at hp
 | some o=>
   simp only[ho]at hp;have:=wH hok.1 j (rS o) (by simp[ho]) p hp;omega
theorem AL {tr:Tr}(hok:aP ops tr=true){S:Nat->Prop}(hcl:∀ k,S k->∀ p∈rr ops k,S p){i j:Nat}{x y:List Loc×List WK}(hij:i<j)(hx:tr[i]?=some x)(hy:tr[j]?=some y) 
 (hS:∀ p∈rr ops j,S p) (hbad:rR x y=true\/rn x y=true):S i:=by
 simp only[aP,Zc]at hok;obtain⟨m,e1,e2⟩:=wI hok.2 j y hy;have e3:=e2 i x (by simpa using hx) (by simpa using hij);rcases e3 with e3|⟨e3,e4⟩
 ·refine AB (S:=S) (pr:=rr ops) hcl (ops.toList.map rS) [] ?_ ?_ j (ZG.1 e1).1 i ?_ hS
  ·intro k ds hk;simp only[ZE,ZD]at hk;obtain⟨o,ho,rfl⟩:=hk;rw[ZZ]at ho;simp[rr,ho]
  ·intro j hj;simp at hj
  ·rw[Zr,e1];exact e3
 ·rcases hbad with h|h
  ·rw[e3]at h;cases h
  ·rw[e4]at h;cases h
theorem Hc (hrun:Kl P cx.n ops ops.toList g0 xs gm)(hok:aP ops (xs.map fun x=>(x.1,x.2.map keyOf))=true)(hQ:∀ a' w',gw cx gm a' w'->Q .normal a' w'):
 ∀ (fuel:Nat) (listed:Array Bool) (a:Act) (w:World),listed.size=ops.size->((Zl ops.size).filter fun i=> !rO listed i).length<=fuel->
  (∀ k,rO listed k=true->∀ p∈rr ops k,rO listed p=true)->
  gw cx (bz g0 (sel (fun i=>(xs.getD i ([],[])).2) (rO listed) ops.size)) a w->wpAny P .any ops Q fuel listed a w:=by
 obtain⟨hlen,hgm,hat⟩:=Kl.at hrun;have hlen':xs.length=ops.size:=by simpa using hlen
 let dI:Nat->List W:=fun i=>(xs.getD i ([],[])).2
 have hall:gm=bz g0 (sel dI (fun _=>true) ops.size):=by
  have:=vY xs xs.length (Ze _);rw[List.take_length]at this;rw[hgm,this,hlen'];unfold sel;rw[Vp.2 (fun _ _=>rfl)]
 have hex:∀ j,j<ops.size->∃ o t,ops[j]?=some o/\xs[j]?=some (t,dI j)/\C4 P cx.n ops o (bz g0 (sel dI (fun i=>decide (i<j)) ops.size)) t (dI j):=by
  intro j hj;have ho:ops.toList[j]?=some ops[j]:=by simp[hj]
  obtain⟨t,ws,e1,e2⟩:=hat j _ ho;have hw:dI j=ws:=by simp[dI,Zr,e1]
  refine⟨ops[j],t,by simp[hj],by rw[hw];exact e1,?_⟩;rw[hw];have e3:=vY xs j (by omega);unfold sel;rw[yf (by omega)];rw[e3]at e2;exact e2
 have full:∀ (listed:Array Bool) (a:Act) (w:World),(∀ j,j<ops.size->rO listed j=true)->gw cx (bz g0 (sel dI (rO listed) ops.size)) a w->Q .normal a w:=by
  intro listed a w hl hS;refine hQ a w ?_;rw[hall];have:sel dI (rO listed) ops.size=sel dI (fun _=>true) ops.size:=by
   unfold sel
   congr 1
   exact XV (fun i hi=>hl i (Yc.1 hi))
  rw[<-this];exact hS
 have noready:∀ (listed:Array Bool),listed.size=ops.size->Vq .any ops listed=[]->∀ j,j<ops.size->rO listed j=true:=by
  intro listed hsz hr j
  induction j using Nat.strongRecOn with
  | _ j ih=>
    intro hj;cases hl:rO listed j with
    |true=>rfl
    | false=>
      exfalso;have:j∈Vq .any ops listed:=by
       rw[mem_ready];refine⟨?_,ops[j],by simp[hj],?_⟩
       ·unfold rO at hl;simp only[Yx]at hl ⊢;rw[Xn (by omega)]at hl ⊢
        simpa using hl
       ·intro e he hb;have hp:e.on∈rr ops j:=by
         simp only[rr,hj,Xn];exact wE.2 ⟨e,he,hb,rfl⟩
        have hlt:=HI hok hp;exact ih e.on hlt (by omega)
      rw[hr]at this;cases this
 intro fuel
 induction fuel with
 | zero=>
   intro listed a w hsz hf hcl hS;have hnil:(Zl ops.size).filter (fun i=> !rO listed i)=[]:=YK (by omega);have hl:∀ j,j<ops.size->rO listed j=true:=by
    intro j hj;have:=XW.1 hnil j (Yc.2 hj)
    simpa using this
   refine⟨?_,full listed a w hl hS⟩;rw[List.eq_nil_iff_forall_not_mem];intro j hj;obtain⟨h1,o,ho,_⟩:=mem_ready.1 hj;have hjlt:=(ZF.1 ho).1;have:=hl j hjlt;unfold rO at this;simp only[Yx]at h1 this;rw[Xn (by omega)]at h1 this;simp only[Z9]at h1 this;rw[h1]at this;cases this
 | succ fuel ih=>
   intro listed a w hsz hf hcl hS;refine⟨fun hr=>full listed a w (noready listed hsz hr) hS,?_⟩;intro i hi;obtain⟨h1,o,ho,hpre⟩:=mem_ready.1 hi;have hilt:=(ZF.1 ho).1;have hni:rO listed i=false:=by
    unfold rO;simp only[Yx]at h1 ⊢;rw[Xn (by omega)]at h1 ⊢
    simpa using h1
   have hpi:∀ p∈rr ops i,rO listed p=true:=by
    intro p hp;simp only[rr,ho]at hp;obtain⟨e,he,hb,rfl⟩:=wE.1 hp;exact hpre e he hb
   obtain⟨o',t,ho',hxs,hexec⟩:=hex i hilt;rw[ho]at ho';cases ho';have htr:∀ k t',xs[k]?=some (t',dI k)->(xs.map fun x=>(x.1,x.2.map keyOf))[k]?=some (t',(dI k).map keyOf):=by
    intro k t' h;simp[h]
   have later:∀ k,i<k->k<ops.size->∀ l,eI (dI k) l=true->(eI (dI i) l=true\/l∈t)->rO listed k=false:=by
    intro k hik hk l hl hc;cases hlk:rO listed k with
    |false=>rfl
    | true=>
      exfalso;obtain⟨o2,t2,ho2,hxs2,_⟩:=hex k hk;have:=AL hok (S:=fun k=>rO listed k=true) hcl hik (htr i t hxs) (htr k t2 hxs2) (hcl k hlk) (by
       obtain⟨q,hq1,hq2⟩:=rD.1 hl;rcases hc with hc|hc
       ·obtain⟨q',hq3,hq4⟩:=rD.1 hc;refine .inl ?_;simp only[rR,XX,Z7];exact⟨q',hq3,.inr ⟨q,hq1,La hq4 hq2⟩⟩
       ·refine .inr ?_;simp only[rn,XX];exact⟨q,hq1,l,hc,hq2⟩)
      rw[hni]at this;cases this
   have hexec':C4 P cx.n ops o (bz g0 (sel dI (rO listed) ops.size)) t (dI i):=by
    refine hexec.congr ?_;intro l hl;refine vV ?_;intro k hk htk;rcases Nat.lt_trichotomy k i with c|c|c
    ·simp only[c,decide_true];obtain⟨o2,t2,ho2,hxs2,_⟩:=hex k hk;refine AL hok (S:=fun k=>rO listed k=true) hcl c (htr k t2 hxs2) (htr i t hxs) hpi (.inl ?_);obtain⟨q,hq1,hq2⟩:=rD.1 htk;simp only[rR,XX,Z7];exact⟨q,hq1,.inl ⟨l,hl,hq2⟩⟩
    ·subst c;simp[hni]
    ·rw[later k c hk l htk (.inr hl)];simp;omega
   show wpOp P ops Q i _ a w;unfold wpOp;simp only[ho];refine hexec'.sound hS ?_;intro a' w' hs';refine ih _ a' w' (by simp[hsz]) ?_ ?_ ?_
   ·have e:(Zl ops.size).filter (fun k=> !rO (listed.setIfInBounds i true) k)=((Zl ops.size).filter (fun k=> !rO listed k)).filter (fun k=>decide (k≠i)):=by
     rw[Ww];refine XV ?_;intro k _;rw[uf (by omega)];by_cases hki:k=i<;>simp[hki]
    have hlt:(((Zl ops.size).filter (fun k=> !rO listed k)).filter (fun k=>decide (k≠i))).length<((Zl ops.size).filter (fun k=> !rO listed k)).length:=by
     rw[List.length_filter_lt_length_iff_exists];exact⟨i,List.mem_filter.2 ⟨Yc.2 hilt,by simp[hni]⟩,by simp⟩
    rw[e];omega
   ·intro k hk p hp;rw[uf (by omega)]at hk ⊢;rw[Z7]at hk;rcases hk with hk|hk
    ·rw[hcl k hk p hp];rfl
    ·simp at hk;subst hk;rw[hpi p hp];rfl
   ·have e:bz (bz g0 (sel dI (rO listed) ops.size)) (dI i)=bz g0 (sel dI (rO (listed.setIfInBounds i true)) ops.size):=by
     funext l
     cases ht:eI (dI i) l with
     | true=>
       symm
       refine Nf hilt ?_ ht ?_
       ·rw[uf (by omega)];simp
       ·intro k hik hk htk;rw[uf (by omega),later k hik hk l htk (.inl ht)];simp;omega
     | false=>
       rw[sJ ht];refine vV ?_;intro k hk htk;rw[uf (by omega)];have:k≠i:=fun e=>by rw[e,ht]at htk;cases htk
       simp[this]
    rw[<-e];exact hs'
theorem FX {id:Nat}{a:Act}{w:World}(hm:P.follows .mixedOrders=true)(hrun:Kl P cx.n ops ops.toList g0 xs gm)(hok:aP ops (xs.map fun x=>(x.1,x.2.map keyOf))=true) 
 (hQ:∀ a' w',gw cx gm a' w'->Q .normal a' w') (hS:∀ a w,gw cx g0 a w->gw cx g0 a {w with drawn:=w.drawn+1}) (hs:gw cx g0 a w):(Vr id ops true).wp P Q a w:=by
 refine wp_region_any hm ?_;refine Hc hrun hok hQ ops.size _ a _ (by simp) ?_ ?_ ?_;exact Nat.le_trans (List.length_filter_le _ _) (by simp)
 ·intro k hk;exfalso;unfold rO at hk;simp only[Yx,Array.getElem?_replicate]at hk;split at hk<;>simp at hk
 ·have:sel (fun i=>(xs.getD i ([],[])).2) (rO (Y7 ops.size false)) ops.size=[]:=by
   unfold sel;have:(Zl ops.size).filter (rO (Y7 ops.size false))=[]:=by
    rw[XW];intro k hk;have hk:=Yc.1 hk;simp[rO,hk]
   rw[this];rfl
  rw[this];exact hS a w hs
end
end Go.V
namespace Go.V
def MF:List W->Nat->Option R
 |[],_=>none
 | .reg d x::ws,d'=>if d.beq d' then some x else MF ws d'
 |_::ws,d'=>MF ws d'
def HJ:List W->Nat->Nat->Option Hv
 |[],_,_=>none
 | .leaf r j x::ws,r',j'=>if r.beq r'&&j.beq j' then some x else HJ ws r' j'
 |_::ws,r',j'=>HJ ws r' j'
def ue (g:Gm)(ov:List W):List Nat->VS
 |[]=>[]
 | d::ds=>match MF ov d with
   |some x=>.reg d x::ue g ov ds
   | none=>match g (.reg d)with
     |some (.r x)=>.reg d x::ue g ov ds
     |_=>ue g ov ds
def pk (g:Gm)(ov:List W)(r:Nat):Nat->Nat->List Hv
 |_,0=>[]
 | j,m+1=>match HJ ov r j with
   |some h=>h::pk g ov r (j+1) m
   | none=>match g (.leaf r j)with
     |some (.h h)=>h::pk g ov r (j+1) m
     |_=>⟨0,0,none,.gone⟩::pk g ov r (j+1) m
def vJ (g:Gm)(ov:List W):List Nat->VS
 |[]=>[]
 | r::rs=>match g (.meta_ r)with
   |some (.m k box)=>.root r box (pk g ov r 0 k)::vJ g ov rs
   |_=>vJ g ov rs
def CE (σ:VS)(regs roots:List Nat)(ov:List W):VS:=ue (get σ) ov regs++vJ (get σ) ov roots
def oP (g whole:Gm)(r j:Nat)(p:Hv->Hv->Prop):Prop:=
 match g (.leaf r j)with
 | some (.h h')=>match whole (.leaf r j)with
   |some (.h h)=>p h' h
   |_=>False
 |_=>False
def tT (whole:Gm):List GM->Prop
 |[]=>True
 | .pt r _::cs=>(match whole (.meta_ r)with
   |some (.m _ true)=>True
   |_=>False)/\tT whole cs
 | .rp _ _::cs=>tT whole cs
def Td (g whole:Gm):A->A->Prop
 | .vw r j v' lo n,x=>match x with
   | .vw r2 j2 v lo2 n2=>(Z1 r r2&&Z1 j j2)=true/\lo=lo2/\n=n2/\oP g whole r j fun h' h=>h'.ver=v'/\h.ver=v
   |_=>False
 | .pn r j v' iv' p,x=>match x with
   | .pn r2 j2 v iv p2=>(Z1 r r2&&Z1 j j2)=true/\p=p2/\oP g whole r j fun h' h=>h'.ver=v'/\h.ver=v/\h'.iv=iv'/\h.iv=iv
   |_=>False
 | .vn r j v' iv' p lo n,x=>match x with
   | .vn r2 j2 v iv p2 lo2 n2=>(Z1 r r2&&Z1 j j2)=true/\p=p2/\lo=lo2/\n=n2/\oP g whole r j fun h' h=>h'.ver=v'/\h.ver=v/\h'.iv=iv'/\h.iv=iv
   |_=>False
 | .pt r j,x=>x=.pt r j/\match whole (.meta_ r)with
   |some (.m _ true)=>True
   |_=>False
 | .v y,x=>x=.v y
 | .nl,x=>x=.nl
 | .ro sz es,x=>x=.ro sz es
 | .rp rec j,x=>x=.rp rec j
 | .fn f caps,x=>x=.fn f caps/\tT whole caps
 | .mv r j v',x=>match x with
   | .mv r2 j2 v=>(Z1 r r2&&Z1 j j2)=true/\oP g whole r j fun h' h=>h'.ver=v'/\h.ver=v
   |_=>False
 | .st _ _ _ _ _,_=>False
 | .it es vs,x=>x=.it es vs
 | .un,x=>x=.un
def Lj (g whole:Gm):List A->List A->Prop
 |[],[]=>True
 |y::ys,x::xs=>Td g whole y x/\Lj g whole ys xs
 |_,_=>False
mutual
def vE (g whole:Gm):R->R->Prop
 | .one y,x=>match x with
   | .one x=>Td g whole y x
   |_=>False
 | .agg ys,x=>match x with
   | .agg xs=>Lj g whole ys xs
   |_=>False
 | .tup rs,x=>match x with
   | .tup qs=>Co g whole rs qs
   |_=>False
def Co (g whole:Gm):List R->List R->Prop
 | [],xs=>match xs with
   |[]=>True
   |_=>False
 | r::rs,xs=>match xs with
   |q::qs=>vE g whole r q/\Co g whole rs qs
   |_=>False
end
def lH (g:Gm)(r:Nat):Nat->List Hv->Prop
 |_,[]=>True
 | j,h::hs=>(match g (.leaf r j)with
   | some (.h h')=>h'.c=h.c/\match h.org with
     |none=>True
     |some i=>h'.org=some i
   |_=>False)/\lH g r (j+1) hs
def lB (g whole:Gm):VS->Prop
 |[]=>True
 | .reg d x::τ=>(match g (.reg d)with
   |some (.r y)=>vE g whole y x
   |_=>False)/\lB g whole τ
 | .root r box hs::τ=>(match g (.meta_ r)with
   |some (.m k b)=>k=hs.length/\b=box
   |_=>False)/\lH g r 0 hs/\lB g whole τ
 | .leaf _ _ _::_=>False
def LW (g:Gm):List Nat->Prop
 |[]=>True
 | r::rs=>(match g (.meta_ r)with
   |some (.m _ true)=>True
   |_=>False)/\LW g rs
def LeO (an:List Nat)(σ τ:VS):Prop:=lB (get σ) (get τ) τ/\LW (get τ) an
theorem CF {g:Gm}:∀ {an:List Nat},LW g an->∀ r∈an,∃ k,g (.meta_ r)=some (.m k true)
 |[],_,r,h=>by cases h
 | a::an,h,r,hr=>by
   rcases Zn.1 hr with rfl|hr
   ·obtain⟨h,_⟩:=h;split at h
    ·rename_i k e;exact⟨k,e⟩
    ·exact h.elim
   ·exact CF h.2 r hr
section
variable {P: Program} {cx: Cx}
theorem lB.regs {g whole:Gm}:∀ {τ:VS},lB g whole τ->∀ d x,get τ (.reg d)=some x->∃ r y,x=.r r/\g (.reg d)=some (.r y)/\vE g whole y r
 |[],_,d,x,h=>by simp[get]at h
 | .reg d' y::τ,hs,d,x,h=>by
   obtain⟨h1,h3⟩:=hs;simp only[get,W.app]at h;split at h
   ·rename_i e;cases e;cases h;split at h1
    ·rename_i y' e';exact⟨_,_,rfl,e',h1⟩
    ·exact h1.elim
   ·exact lB.regs h3 d x h
 | .root r box hs::τ,hsub,d,x,h=>by
   simp only[get,W.app]at h;exact lB.regs hsub.2.2 d x h
 | .leaf _ _ _::_,hs,_,_,_=>hs.elim
theorem lB.metas {g whole:Gm}:∀ {τ:VS},lB g whole τ->∀ r x,get τ (.meta_ r)=some x->(∃ k box,x=.m k box)/\g (.meta_ r)=some x
 |[],_,r,x,h=>by simp[get]at h
 | .reg d' y::τ,hs,r,x,h=>by
   simp only[get,W.app]at h;rw[VT (by simp)]at h;exact lB.metas hs.2 r x h
 | .root r' box hs::τ,hsub,r,x,h=>by
   obtain⟨h1,h2,h3⟩:=hsub;simp only[get,W.app]at h;split at h
   ·rename_i e;subst e;cases h;split at h1
    ·rename_i k b e';obtain⟨rfl,rfl⟩:=h1;exact⟨⟨_,_,rfl⟩,e'⟩
    ·exact h1.elim
   ·exact lB.metas h3 r x h
 | .leaf _ _ _::_,hs,_,_,_=>hs.elim
theorem lH.at {g:Gm}{r:Nat}:∀ {hs:List Hv} {j i:Nat} {x:Hv},lH g r j hs->hs[i]?=some x->∃ h',g (.leaf r (j+i))=some (.h h')/\h'.c=x.c/\(∀ o,x.org=some o->h'.org=some o)
 |[],_,_,_,_,h=>by simp at h
 | y::hs,j,i,x,hle,h=>by
   obtain⟨h1,h2⟩:=hle;cases i with
   | zero=>
     simp at h;subst h;split at h1
     ·rename_i h' e;refine⟨h',e,h1.1,fun o ho=>?_⟩;have:=h1.2;rw[ho]at this;exact this
     ·exact h1.elim
   | succ i=>
     simp at h;obtain⟨h',e,e2⟩:=lH.at h2 h;exact⟨h',by rw[<-e];congr 2;omega,e2⟩
theorem lB.leaves {g whole:Gm}:∀ {τ:VS},lB g whole τ->∀ r j x,get τ (.leaf r j)=some x->∃ h h' k box,x=.h h/\g (.leaf r j)=some (.h h')/\(h'.c=h.c/\∀ o,h.org=some o->h'.org=some o)/\get τ (.meta_ r)=some (.m k box)/\j<k
 |[],_,r,j,x,h=>by simp[get]at h
 | .reg d' y::τ,hs,r,j,x,h=>by
   simp only[get,W.app]at h ⊢;rw[VT (by simp)]at h;rw[VT (by simp)];exact lB.leaves hs.2 r j x h
 | .root r' box hs::τ,hsub,r,j,x,h=>by
   simp only[get,W.app]at h ⊢;split at h
   ·rename_i e;subst e;rw[VR rfl];simp only[ZD]at h;obtain⟨y,e1,rfl⟩:=h;obtain⟨h',e2,e3⟩:=lH.at hsub.2.1 e1;rw[Zv]at e2;exact⟨y,h',_,_,rfl,e2,e3,rfl,(ZG.1 e1).1⟩
   ·rename_i e;rw[VT e];exact lB.leaves hsub.2.2 r j x h
 | .leaf _ _ _::_,hs,_,_,_,_=>hs.elim
theorem LeO.sim {an:List Nat}(ha:∀ r x,cx.aloc r=some x->r∈an){σ τ:VS}(h:LeO an σ τ){a:Act}{w:World}(hS:gw cx (get σ) a w):gw cx (get τ) a w:=by
 obtain⟨G,hS⟩:=hS;obtain⟨h,hk⟩:=h
 open Classical in
 let G':Gh:={G with loc:=fun r=>if∃ k,get τ (.meta_ r)=some (.m k true)then G.loc r else none}
 have pair:∀ r j (p:Hv->Hv->Prop),oP (get σ) (get τ) r j p->∀ h0,gl (get σ) r j=some h0->∃ h1,gl (get τ) r j=some h1/\p h0 h1/\h1.c=h0.c:=by
  intro r j p hs h0 e;rw[aO]at e;unfold oP at hs;rw[e]at hs;simp only at hs;split at hs
  ·rename_i h1 e1;obtain⟨y,h',_,_,q1,q2,q3,_⟩:=lB.leaves h r j _ e1;cases q1;rw[e]at q2;cases q2;exact⟨h1,aO.2 e1,hs,q3.1.symm⟩
  ·exact hs.elim
 have beq:∀ {r r2 j j2:Nat},(Z1 r r2&&Z1 j j2)=true->r=r2/\j=j2:=by
  intro r r2 j j2 e;simp only[Zc]at e;exact⟨Ys e.1,Ys e.2⟩
 have hA:∀ y x v,Td (get σ) (get τ) y x->j7 (gl (get σ)) G w y v->j7 (gl (get τ)) G' w x v:=by
  intro y x v hc hx;cases y with
  | pt r j=>
    obtain⟨rfl,hc⟩:=hc;obtain⟨b,off,e1,e2⟩:=hx;refine⟨b,off,?_,e2⟩;split at hc
    ·rename_i k e;simp only[G'];rw[VR ⟨k,e⟩];exact e1
    ·exact hc.elim
  |st _ _ _ _ _=>exact hc.elim
  | mv r j v'=>
    cases x with
    | mv r2 j2 ver=>
      obtain⟨e,hp⟩:=hc;obtain⟨rfl,rfl⟩:=beq e;obtain⟨h0,e1,e2,e3⟩:=hx;obtain⟨h1,f1,⟨f2,f3⟩,f4⟩:=pair r j _ hp h0 e1;exact⟨h1,f1,by omega,fun _ kb es qc=>e3 f2 kb es (by rw[<-f4];exact qc)⟩
    |_=>exact hc.elim
  | vw r j v' lo n=>
    cases x with
    | vw r2 j2 ver lo2 n2=>
      obtain⟨e,rfl,rfl,hp⟩:=hc;obtain⟨rfl,rfl⟩:=beq e;obtain⟨h0,e1,e2,e3⟩:=hx;obtain⟨h1,f1,⟨f2,f3⟩,f4⟩:=pair r j _ hp h0 e1;exact⟨h1,f1,by omega,fun _ sz es qc=>e3 f2 sz es (by rw[<-f4];exact qc)⟩
    |_=>exact hc.elim
  | pn r j v' iv' p=>
    cases x with
    | pn r2 j2 ver iv p2=>
      obtain⟨e,rfl,hp⟩:=hc;obtain⟨rfl,rfl⟩:=beq e;obtain⟨h0,e1,e2,e3,e4,e5⟩:=hx;obtain⟨h1,f1,⟨f2,f3,f5,f6⟩,f4⟩:=pair r j _ hp h0 e1;exact⟨h1,f1,by omega,by omega,e4,fun _ l qc=>e5 (by simp[An,f2,f5]) l (by rw[<-f4];exact qc)⟩
    |_=>exact hc.elim
  | vn r j v' iv' p lo n=>
    cases x with
    | vn r2 j2 ver iv p2 lo2 n2=>
      obtain⟨e,rfl,rfl,rfl,hp⟩:=hc;obtain⟨rfl,rfl⟩:=beq e;obtain⟨h0,e1,e2,e3,e4,e5⟩:=hx;obtain⟨h1,f1,⟨f2,f3,f5,f6⟩,f4⟩:=pair r j _ hp h0 e1;exact⟨h1,f1,by omega,by omega,e4,fun _ l rec o sz es qc=>e5 (by simp[jk,f2,f5]) l rec o sz es (by rw[<-f4];exact qc)⟩
    |_=>exact hc.elim
  |v y=>have hc:x=_:=hc;subst hc;exact hx
  |nl=>have hc:x=_:=hc;subst hc;exact hx
  |ro sz es=>have hc:x=_:=hc;subst hc;exact hx
  |rp rec j=>have hc:x=_:=hc;subst hc;exact hx
  |un=>have hc:x=_:=hc;subst hc;trivial
  |it es vs=>have hc:x=_:=hc;subst hc;exact hx
  | fn f caps=>
    obtain⟨rfl,hc⟩:=hc;obtain⟨ps,e,hx⟩:=hx;refine⟨ps,e,?_⟩;have key:∀ (caps:List GM) (ps:List Value),tT (get τ) caps->fv G w caps ps->fv G' w caps ps:=by
     intro caps
     induction caps with
     |nil=>intro ps _ h;exact h
     | cons c cs ih=>
       intro ps hk hx;obtain⟨v,vs',e,h1,h2⟩:=hx;cases c with
       | pt r j=>
         obtain⟨k1,k2⟩:=hk;refine⟨v,vs',e,?_,ih _ k2 h2⟩;obtain⟨b,off,e1,e2⟩:=h1;refine⟨b,off,?_,e2⟩;split at k1
         ·rename_i k e;simp only[G'];rw[VR ⟨k,e⟩];exact e1
         ·exact k1.elim
       |rp rec j=>exact⟨v,vs',e,h1,ih _ hk h2⟩
    exact key caps ps hc hx
 have hAs:∀ ys xs vs,Lj (get σ) (get τ) ys xs->bY (gl (get σ)) G w ys vs->bY (gl (get τ)) G' w xs vs:=by
  intro ys
  induction ys with
  | nil=>intro xs vs hc hx;cases xs with
    |nil=>exact hx
    |cons _ _=>exact hc.elim
  | cons y ys ih=>
    intro xs vs hc hx;cases xs with
    |nil=>exact hc.elim
    | cons x xs=>
      obtain⟨v,vs',e,h1,h2⟩:=hx;exact⟨v,vs',e,hA y x v hc.1 h1,ih xs vs' hc.2 h2⟩
 have hR:∀ y x v,vE (get σ) (get τ) y x->da (gl (get σ)) G w y v->da (gl (get τ)) G' w x v:=by
  intro y
  induction y using R.rec (motive_2:=fun ys=>∀ xs vs,Co (get σ) (get τ) ys xs->jC (gl (get σ)) G w ys vs->jC (gl (get τ)) G' w xs vs)with
  | one y=>
    intro x v hc hx;cases x with
    |one x=>simp only[da,vE]at*;exact hA y x v hc hx
    |agg _=>simp[vE]at hc
    |tup _=>simp[vE]at hc
  | agg ys=>
    intro x v hc hx;cases x with
    |agg xs=>simp only[da,vE]at*;obtain⟨vs,e,hx⟩:=hx;exact⟨vs,e,hAs ys xs vs hc hx⟩
    |one _=>simp[vE]at hc
    |tup _=>simp[vE]at hc
  | tup ys ih=>
    intro x v hc hx;cases x with
    |tup xs=>simp only[da,vE]at*;obtain⟨vs,e,hx⟩:=hx;exact⟨vs,e,ih xs vs hc hx⟩
    |one _=>simp[vE]at hc
    |agg _=>simp[vE]at hc
  | nil=>
    rename_i xs vs hc hx;cases xs with
    |nil=>exact hx
    |cons _ _=>simp[Co]at hc
  | cons r rs ih1 ih2=>
    rename_i xs vs hc hx;cases xs with
    |nil=>simp[Co]at hc
    | cons q qs=>
      simp only[jC,Co]at*;obtain⟨v,vs',e,h1,h2⟩:=hx;exact⟨v,vs',e,ih1 q v hc.1 h1,ih2 qs vs' hc.2 h2⟩
 refine⟨G',hS.defers,hS.tm,?_,?_,?_,?_,?_,hS.lt,hS.frame,hS.frow,?_,?_,hS.afr,?_,?_,hS.roX⟩
 ·intro d x hx;obtain⟨r,y,rfl,he,hc⟩:=lB.regs h d x hx;obtain⟨e1,r',e2,e3⟩:=hS.reg d _ he;cases e2;exact⟨e1,r,rfl,hR y r _ hc e3⟩
 ·intro r k hk;obtain⟨b,off,cur,ty,f1,f2⟩:=hS.boxes r k (lB.metas h r _ hk).2;exact⟨b,off,cur,ty,by simp only[G'];rw[VR ⟨k,hk⟩];exact f1,f2⟩
 ·intro r j x hx;obtain⟨y,h',k,box,rfl,q2,q3,q4,q5⟩:=lB.leaves h r j x hx;obtain⟨h0,k0,box0,e1,e2,e3,e4⟩:=hS.leaf r j _ q2;cases e1;refine⟨y,k,box,rfl,q4,q5,?_⟩;unfold ff at e4 ⊢;rw[q3.1]at e4;exact e4
 ·intro r x hx;exact(lB.metas h r x hx).1
 ·intro r b hb;simp only[G']at hb;split at hb
  ·rename_i e;exact e
  ·cases hb
 ·intro r j h0 e i hi hl;obtain⟨y,h',k,box,e1,q2,q3,q4,q5⟩:=lB.leaves h r j _ (aO.1 e);cases e1;exact hS.anc r j h' (aO.2 q2) i (q3.2 i hi) (by rw[q3.1];exact hl)
 ·intro r x hx;have:=CF hk r (ha r x hx);simp only[G'];obtain⟨k,hk2⟩:=this;rw[VR ⟨k,hk2⟩];obtain⟨g1,g2⟩:=hS.aloc r x hx;have:=(lB.metas h r _ hk2).2;rw[this]at g2;cases g2;exact⟨g1,hk2⟩
 ·intro r1 r2 k1 k2 b o1 o2 hne h1 h2 q1 q2;simp only[G']at q1 q2;rw[VR ⟨k1,h1⟩]at q1;rw[VR ⟨k2,h2⟩]at q2;exact hS.sep r1 r2 k1 k2 b o1 o2 hne (lB.metas h r1 _ h1).2 (lB.metas h r2 _ h2).2 q1 q2
 ·intro r b off hx ha2;simp only[G']at hx;split at hx
  ·exact hS.newb r b off hx ha2
  ·cases hx
theorem gw.drawn {g:Gm}{a:Act}{w:World}(h:gw cx g a w)(k:Nat):gw cx g a {w with drawn:=k}:=by
 obtain⟨G,hS⟩:=h
 let w':World:={w with drawn:=k}
 have st:Step g G w g G w':=⟨fun r j h hh=>⟨h,hh,.inl ⟨rfl,rfl,fun _ _ _ _=>rfl⟩⟩,fun b hb=>⟨hb,rfl⟩,fun b hb=>⟨hb,rfl⟩,fun r x h=>h⟩;refine⟨G,hS.defers,hS.tm,?_,hS.boxes,?_,hS.metas,hS.noloc,hS.lt,⟨hS.frame.os,hS.frame.tape,hS.frame.output,hS.frame.size,hS.frame.block⟩,hS.frow,hS.anc,hS.aloc,fun r b off e=>(hS.afr r b off e).keep rfl,hS.sep,hS.newb,hS.roX⟩
 ·intro d x hx;obtain⟨e1,r,e2,e3⟩:=hS.reg d x hx;exact⟨e1,r,e2,da.step hS st _ _ e3⟩
 ·intro r j x hx;obtain⟨h,k',box,e1,e2,e3,e4⟩:=hS.leaf r j x hx;refine⟨h,k',box,e1,e2,e3,?_⟩;unfold ff at e4 ⊢;split at e4
  ·exact⟨bQ.keep (w':=w') _ _ _ e4.1 (fun _ _=>rfl),e4.2⟩
  ·obtain⟨S,h1,h2⟩:=e4;exact⟨S,bQ.keep (w':=w') _ _ _ h1 (fun _ _=>rfl),h2⟩
  ·trivial
end
end Go.V
namespace Go.V
section
variable (T: yN) (O: GZ) (ct: Ig) (n: Nat) (an: List Nat)
def HF:List Oper->Option (Nat×Nat×Nat)
 | [o1,o2]=>match o1.op with
   | .next (.tmp it) false=>match o2.op with
     | .extract (.tmp d) 0=>match o1.dst,o1.guard,o2.dst,o2.guard with
       | some d1,none,some d2,none=>match Z1 d d1 with
         |true=>some (it,d1,d2)
         |false=>none
       |_,_,_,_=>none
     |_=>none
   |_=>none
 |_=>none
def NC (it d1 d2:Nat)(draw:Bool)(σ:VS)(K:VS->Prop):Prop:=
 match draw with
 |true=>False
 | false=>match get σ (.reg it)with
   | some (.r (.one (.it es vs)))=>(vX it σ&&(Wz d1 n&&(Wz d2 n&&(!Nat.beq d1 it&& !Nat.beq d2 it))))=true/\
      (∀ k:Int,O.pr (fun _=>k∈pm es/\vs.length<es.length)->K (.reg d2 (.k true):: .reg d1 (.one .un):: .reg it (.one (.it es (k::vs)))::σ))/\
      (O.pr (fun _=>∀ k∈pm es,k∈vs)->K (.reg d2 (.k false):: .reg d1 (.one .un)::σ))
   |_=>False
def Gx (ops:Array Oper)(draw:Bool)(Q:VS->Prop)(σ:VS):Prop:=
 CZ T O ct n ops ops.toList σ [] fun σ' acc=>match draw with
  |true=>O.pr (fun _=>aP ops acc.reverse=true)/\Q σ'
  |false=>Q σ'
def qn:Code->(Ex->VS->Prop)->VS->Prop
 | .skip,Q,σ=>Q .normal σ
 | .region id ops draw,Q,σ=>match HF ops.toList with
   |some (it,d1,d2)=>NC O n it d1 d2 draw σ (fun σ'=>Q .normal σ')
   | none=>match lk T.alL id with
     |none=>Gx T O ct n ops draw (Q .normal) σ
     |some _=>Gx T O ct n ops draw (Q .normal) σ\/Gx T O ⟨ct.rd,ct.mu,fun _=>none,ct.nw,ct.tk⟩ n ops draw (Q .normal) σ
 | .seq x y,Q,σ=>qn x (fun e σ'=>match e with
    | .normal=>qn y Q σ'
    | .exit i=>Q (.exit i) σ'
    | .ret=>Q .ret σ') σ
 | .cond c x y,Q,σ=>(DF c .ret).wpU (get σ) [] fun _ b=>K4 b (fun _=>qn x Q σ) (fun _=>qn y Q σ)
 | .block id x,Q,σ=>qn x (fun e σ'=>match e with
    | .normal=>Q .normal σ'
    | .exit i=>match Z1 i id with
      |true=>Q .normal σ'
      |false=>Q (.exit i) σ'
    | .ret=>Q .ret σ') σ
 | .loop x,Q,σ=>∃ (regs roots:List Nat) (α:Type) (ov:α->List W) (rel:α->Prop) (μ:α->Nat),(∃ s0,rel s0/\LeO an σ (CE σ regs roots (ov s0)))/\
    ∀ s,rel s->qn x (fun e σ'=>match e with
     | .normal=>∃ s',rel s'/\μ s'<μ s/\LeO an σ' (CE σ regs roots (ov s'))
     | .exit i=>Q (.exit i) σ'
     | .ret=>Q .ret σ') (CE σ regs roots (ov s))
 | .exit id,Q,σ=>Q (.exit id) σ
 | .ret,Q,σ=>Q .ret σ
 | .scope x,Q,σ=>qn x Q σ
 |_,_,_=>False
def Lp {α:Type}(O:GZ)(ti:TI)(k:DV->List (Nat×Nat)->Rd α)(as:List A):Rd α:=
 kj O ti.slots as fun lts srcs=>if ti.agg then k (.agg (lts.map (·.1))) srcs else match lts with
  |[(l,_)]=>k (.one l) srcs
  |_=>.fail
def M5 {α:Type}(t:TypeId)(rv:ResultVar)(k:DV->List (Nat×Nat)->Rd α):Rd α:=
 match lk T.tyL t with
 |none=>.fail
 | some ti=>match rv with
   | .tmp x=>HR x fun r=>match r with
     | .one a=>if ti.agg then .fail else Lp O ti k [a]
     | .agg as=>if ti.agg then Lp O ti k as else .fail
     | .tup _=>.fail
   | .cell x t'=>if t'==t then HR x fun r=>match r with
     | .one (.pt r j)=>kg O r j ti.zero.length (Lp O ti k)
     |_=>.fail
     else .fail
def AS {α:Type}:List TypeId->List ResultVar->(List DV->List (Nat×Nat)->Rd α)->Rd α
 |[],[],k=>k [] []
 |t::ts,rv::rvs,k=>M5 T O t rv fun d src=>AS ts rvs fun ds srcs=>k (d::ds) (src++srcs)
 |_,_,_=>.fail
def CY (ts:List TypeId)(rvs:List ResultVar)(σ:VS)(res:List DV):Prop:=
 (AS T O ts rvs fun ds srcs=>if bp srcs then .req (O.pr fun _=>ds=res) (.ret ())else .fail).wpU (get σ) [] fun _ _=>True
end
section
variable {P: Program} {T: yN} {cx: Cx} {g: Gm}
theorem qf {α:Type}{r:Nat}:∀ {m j:Nat} {k' k:List A->Rd α} {ls:List Loc} {x:α},(∀ as ls,(k' as).Runs g ls x->(k as).Runs g ls x)->(fm r j m k').Runs g ls x->(fm r j m k).Runs g ls x
 |0,j,k',k,ls,x,hk,h=>hk _ _ h
 |m+1,j,k',k,ls,x,hk,h=>eF (fun v ls h=>qf (fun as ls h=>hk _ _ h) h) h
theorem J5 (hT:bK P T){α:Type}{t:TypeId}{rv:ResultVar}{k' k:DV->List (Nat×Nat)->Rd α}{ls:List Loc}{x:α}(hk:∀ d s ls,(k' d s).Runs g ls x->(k d s).Runs g ls x)(h:(M5 T ai t rv k').Runs g ls x):(M4 P t rv k).Runs g ls x:=by
 revert h
 unfold M5 M4;rcases hT.ty t with e|⟨ti,e,e2⟩
 ·simp only[e];exact fun h=>h.elim
 ·simp only[e,e2];have hf:∀ (as:List A) (ls:List Loc),(Lp ai ti k' as).Runs g ls x->(dj ti.slots as fun lts srcs=>if ti.agg then k (.agg (lts.map (·.1))) srcs else match lts with
   |[(l,_)]=>k (.one l) srcs
   |_=>.fail).Runs g ls x:=by
   intro as ls h;unfold Lp at h;rw[kn]at h;refine jr ?_ h;intro l src ls h;by_cases ha:ti.agg=true
   ·rw[VR ha]at h ⊢;exact hk _ _ _ h
   ·rw[VT ha]at h ⊢;split at h
    ·exact hk _ _ _ h
    ·exact h.elim
  intro h;cases rv with
  | tmp y=>
    refine AQ ?_ h;intro r ls h;cases r with
    | one a=>
      simp only at h ⊢;split at h
      ·exact h.elim
      ·rename_i hb;rw[VT hb];exact hf _ _ h
    | agg as=>
      simp only at h ⊢;split at h
      ·rename_i hb;rw[VR hb];exact hf _ _ h
      ·exact h.elim
    |tup rs=>exact h
  | cell y t'=>
    refine dh (fun ls h=>?_) h;refine AQ ?_ h;intro r ls h;cases r with
    | one a=>cases a with
      | pt r j=>
        simp only[mN]at h;exact qf (fun as ls h=>hf as ls h) h
      |_=>exact h
    |agg as=>exact h
    |tup rs=>exact h
theorem mP (hT:bK P T){α:Type}:∀ {ts:List TypeId} {rvs:List ResultVar} {k' k:List DV->List (Nat×Nat)->Rd α} {ls:List Loc} {x:α},(∀ d s ls,(k' d s).Runs g ls x->(k d s).Runs g ls x)->(AS T ai ts rvs k').Runs g ls x->(AR P ts rvs k).Runs g ls x
 |[],[],k',k,ls,x,hk,h=>hk _ _ _ h
 |[],_::_,k',k,ls,x,hk,h=>h
 |_::_,[],k',k,ls,x,hk,h=>h
 |t::ts,rv::rvs,k',k,ls,x,hk,h=>J5 hT (fun d s ls h=>mP hT (fun d s ls h=>hk _ _ _ h) h) h
theorem FQ {ops:List Oper}{it d1 d2:Nat}(h:HF ops=some (it,d1,d2)):∃ o1 o2,ops=[o1,o2]/\o1.op=.next (.tmp it) false/\o1.dst=some d1/\o1.guard=none/\o2.op=.extract (.tmp d1) 0/\o2.dst=some d2/\o2.guard=none:=by
 unfold HF at h;split at h
 ·rename_i o1 o2;split at h
  ·rename_i it' e1;split at h
   ·rename_i d e2;split at h
    ·rename_i e3 e4 e5 e6;split at h
     ·rename_i hb;cases h;cases Ys hb;exact⟨o1,o2,rfl,e1,e3,e4,e2,e5,e6⟩
     ·cases h
    ·cases h
   ·cases h
  ·cases h
 ·cases h
theorem rG (hT:bK P T){ct:Ig}(hct:yG P ct)(hm:P.follows .mixedOrders=true){n:Nat}(hn:n=cx.n){id:Nat}{ops:Array Oper}{draw:Bool}{Q:Ex->VS->Prop}{σ:VS}{a:Act}{w:World}(h:Gx T ai ct n ops draw (Q .normal) σ)(hS:gw cx (get σ) a w):
 (Vr id ops draw).wp P (fun e a' w'=>∃ ex σ',e=OH ex/\Q ex σ'/\gw cx (get σ') a' w') a w:=by
 unfold Gx at h;obtain⟨xs,σ',h1,h2⟩:=sg hT hct _ _ _ _ h;subst hn;cases draw with
 |false=>exact wp_region_list (h1.text hS (fun a' w' hs=>⟨.normal,σ',rfl,h2,hs⟩))
 | true=>
   obtain⟨h2,h3⟩:=h2;refine FX hm h1 ?_ (fun a' w' hs=>⟨.normal,σ',rfl,h3,hs⟩) (fun a w h=>h.drawn _) hS;have h2:aP ops _=true:=h2
   simpa using h2
theorem dH (hT:bK P T){ct:Ig}(hct:yG P ct)(hm:P.follows .mixedOrders=true){n:Nat}(hn:n=cx.n){an:List Nat}(ha:∀ r x,cx.aloc r=some x->r∈an):∀ (c:Code) (Q:Ex->VS->Prop) (σ:VS) (a:Act) (w:World),qn T ai ct n an c Q σ->gw cx (get σ) a w->
 c.wp P (fun e a' w'=>∃ ex σ',e=OH ex/\Q ex σ'/\gw cx (get σ') a' w') a w
 | .skip,Q,σ,a,w,h,hS=>wp_skip ⟨.normal,σ,rfl,h,hS⟩
 | .region id ops draw,Q,σ,a,w,h,hS=>by
   unfold qn at h;split at h
   ·rename_i it d1 d2 hq;unfold NC at h;split at h
    ·exact h.elim
    split at h
    case h_2=>exact h.elim
    rename_i es vs hit;obtain⟨hb,hT',hF'⟩:=h;simp only[Zc,Y1]at hb;obtain⟨b1,b2,b3,b4,b5⟩:=hb;obtain⟨o1,o2,e0,p1,p2,p3,p4,p5,p6⟩:=FQ hq;subst hn;refine wp_region_list ?_;rw[e0];refine HG hS hit b1 (by simpa[Vs]using b2) (by simpa[Vs]using b3) (WA b4) (WA b5) p1 p2 p3 p4 p5 p6 ?_ ?_
    ·intro k hk hl a' w' hs;exact⟨.normal,_,rfl,hT' k ⟨hk,hl⟩,hs⟩
    ·intro hall a' w' hs;exact⟨.normal,_,rfl,hF' hall,hs⟩
   split at h
   ·exact rG hT hct hm hn h hS
   ·rcases h with h|h;exact rG hT hct hm hn h hS;exact rG (ct:=⟨ct.rd,ct.mu,fun _=>none,ct.nw,ct.tk⟩) hT ⟨hct.1,hct.2.1,fun _ _ e=>(by cases e),hct.2.2.2.1,hct.2.2.2.2⟩ hm hn h hS
 | .seq x y,Q,σ,a,w,h,hS=>by
   refine wp_seq (YO ?_ (dH hT hct hm hn ha x _ σ a w h hS));rintro e a' w' ⟨ex,σ',rfl,hq,hs⟩;cases ex with
   |normal=>exact dH hT hct hm hn ha y Q σ' a' w' hq hs
   |exit i=>exact⟨.exit i,σ',rfl,hq,hs⟩
   |ret=>exact⟨.ret,σ',rfl,hq,hs⟩
 | .cond c x y,Q,σ,a,w,h,hS=>by
   obtain⟨G,hG⟩:=id hS;obtain⟨ls,b,t,h1,h2,_⟩:=Rd.wpU_runs h;obtain⟨b',ls',e,h3⟩:=tX hG h1;refine wp_cond e ?_;simp only[Rd.Runs]at h3;obtain⟨_,rfl⟩:=h3;cases b with
   |true=>exact dH hT hct hm hn ha x Q σ a w h2 hS
   |false=>exact dH hT hct hm hn ha y Q σ a w h2 hS
 | .block id x,Q,σ,a,w,h,hS=>by
   refine wp_block (YO ?_ (dH hT hct hm hn ha x _ σ a w h hS));rintro e a' w' ⟨ex,σ',rfl,hq,hs⟩;cases ex with
   |normal=>exact⟨.normal,σ',rfl,hq,hs⟩
   | exit i=>
     simp only[OH,Exit.inBlock];simp only at hq;split at hq
     ·rename_i e;rw[VR (Ys e)];exact⟨.normal,σ',rfl,hq,hs⟩
     ·rename_i e;rw[VT (WA e)];exact⟨.exit i,σ',rfl,hq,hs⟩
   |ret=>exact⟨.ret,σ',rfl,hq,hs⟩
 | .loop x,Q,σ,a,w,h,hS=>by
   obtain⟨regs,roots,α,ov,rel,μ,⟨s0,hr0,hle0⟩,hround⟩:=h;refine wp_loop_ghost (fun s a w=>rel s/\gw cx (get (CE σ regs roots (ov s))) a w) μ s0 ⟨hr0,hle0.sim ha hS⟩ ?_;rintro s a w ⟨hr,hs⟩;refine YO ?_ (dH hT hct hm hn ha x _ _ a w (hround s hr) hs);rintro e a' w' ⟨ex,σ',rfl,hq,hs'⟩;cases ex with
   | normal=>
     obtain⟨s',k1,k2,k3⟩:=hq;exact⟨s',⟨k1,k3.sim ha hs'⟩,k2⟩
   |exit i=>exact⟨.exit i,σ',rfl,hq,hs'⟩
   |ret=>exact⟨.ret,σ',rfl,hq,hs'⟩
 | .exit id,Q,σ,a,w,h,hS=>wp_exit ⟨.exit id,σ,rfl,h,hS⟩
 | .ret,Q,σ,a,w,h,hS=>wp_ret ⟨.ret,σ,rfl,h,hS⟩
 | .scope x,Q,σ,a,w,h,hS=>by
   refine wp_scope_straight (YO ?_ (dH hT hct hm hn ha x Q σ a w h hS));rintro e a' w' ⟨ex,σ',rfl,hq,hs⟩;cases ex with
   |normal=>exact⟨.normal,σ',rfl,hq,hs⟩
   |exit i=>exact⟨.exit i,σ',rfl,hq,hs⟩
   |ret=>exact⟨.ret,σ',rfl,hq,hs⟩
 | .rangeFunc _ _ _ _,Q,σ,a,w,h,hS=>h.elim
 | .label _,Q,σ,a,w,h,hS=>h.elim
 | .goto _,Q,σ,a,w,h,hS=>h.elim
 | .refuse _,Q,σ,a,w,h,hS=>h.elim
def OJ (T:yN)(O:GZ)(ts:List TypeId)(rvs:List ResultVar)(res:List DV):Ex->VS->Prop
 | .normal,σ=>CY T O ts rvs σ res
 | .ret,σ=>CY T O ts rvs σ res
 | .exit _,_=>False
theorem ag {α:Type}{rel:α->Prop}{μ:α->Nat}{m:Nat}{le:α->Prop}(s:α)(h3:le s)(h1:rel s)(h2:μ s<m):∃ s,rel s/\μ s<m/\le s:=⟨s,h1,h2,h3⟩
end
end Go.V
namespace Go.V
def oM:L->L->Bool
 | .v (.int k _),.v (.int k' _)=>k==k'
 | .v (.bool _),.v (.bool _)=>true
 | .v (.string _),.v (.string _)=>true
 | .s sz _,.s sz' _=>sz==sz'
 |_,_=>false
def ka:ay->ay->Bool
 |[],[]=>true
 |z::zs,x::xs=>oM z x&&ka zs xs
 |_,_=>false
def Wf (z:ay)(es:af):Prop:=∀ e∈es,ka z e=true
theorem wy:∀ {z e:ay},ka z e=true->e.length=z.length
 |[],[],_=>rfl
 |[],_::_,h=>by cases h
 |_::_,[],h=>by cases h
 | z::zs,x::xs,h=>by
   simp only[ka,Zc]at h;simp[wy h.2]
theorem Ct:∀ (o:Nat) {z e:ay},ka z e=true->ka (z.drop o) (e.drop o)=true
 |0,z,e,h=>h
 |o+1,[],[],h=>by simp[ka]
 |o+1,[],_::_,h=>by cases h
 |o+1,_::_,[],h=>by cases h
 | o+1,z::zs,x::xs,h=>by
   simp only[ka,Zc]at h;exact Ct o h.2
theorem Cu:∀ (m:Nat) {z e:ay},ka z e=true->ka (z.take m) (e.take m)=true
 |0,z,e,h=>by simp[ka]
 |m+1,[],[],h=>by simp[ka]
 |m+1,[],_::_,h=>by cases h
 |m+1,_::_,[],h=>by cases h
 | m+1,z::zs,x::xs,h=>by
   simp only[ka,Zc]at h;simp only[List.take_succ_cons,ka,Zc];exact⟨h.1,Cu m h.2⟩
theorem Wf.at {z:ay}{es:af}(h:Wf z es){n:Nat}(hn:n<es.length):ka z (es.getD n [])=true:=by
 rw[Zr,Zu hn];exact h _ (List.getElem_mem hn)
theorem Wf.nil {z:ay}:Wf z []:=fun _ h=>by cases h
theorem Wf.cons {z e:ay}{es:af}(h:ka z e=true)(hs:Wf z es):Wf z (e::es):=by
 intro x hx;rcases Zn.1 hx with rfl|hx;exact h;exact hs x hx
theorem Wf.append {z:ay}{es fs:af}(h:Wf z es)(hs:Wf z fs):Wf z (es++fs):=by
 intro x hx;rcases Zg.1 hx with hx|hx;exact h x hx;exact hs x hx
theorem Wf.take {z:ay}{es:af}(h:Wf z es)(n:Nat):Wf z (es.take n):=fun x hx=>h x (List.mem_of_mem_take hx)
theorem Wf.drop {z:ay}{es:af}(h:Wf z es)(n:Nat):Wf z (es.drop n):=fun x hx=>h x (List.mem_of_mem_drop hx)
theorem Ai {es:af}{i:Int}{t:ay}:∀ {z:ay} {j:Nat} {rest:ay},ka z rest=true->(es.getD i.toNat []).drop j=rest++t->mW ai es i j z=rest
 |[],j,[],_,_=>rfl
 |[],_,_::_,h,_=>by cases h
 |_::_,_,[],h,_=>by cases h
 | z::zs,j,x::xs,h,e=>by
   simp only[ka,Zc]at h;have hx:(es.getD i.toNat []).getD j .g=x:=by
    have:(es.getD i.toNat [])[j]?=some x:=by
     have:=congrArg (fun l:ay=>l[0]?) e
     simpa[Zy]using this
    rw[Zr,this];rfl
   have hr:(es.getD i.toNat []).drop (j+1)=xs++t:=by
    rw[<-Yf,e];rfl
   have ih:=Ai h.2 hr;cases z with
   | v z=>cases z with
     | int k n=>cases x with
       | v x=>cases x with
         | int k' n'=>
           have:k=k':=by simpa[oM]using h.1
           subst this;simp only[mW,ih]
           congr 3
           exact(show ah es i j=_ by simp only[ah,hx,O8])
         |_=>simp[oM]at h
       |_=>simp[oM]at h
     | bool b=>cases x with
       | v x=>cases x with
         | bool b'=>
           simp only[mW,ih]
           congr 3
           exact(show sn es i j=_ by simp only[sn,hx,lfB])
         |_=>simp[oM]at h
       |_=>simp[oM]at h
     | string b=>cases x with
       | v x=>cases x with
         | string b'=>
           simp only[mW,ih]
           congr 3
           exact(show Q1 es i j=_ by simp only[Q1,hx,lfT])
         |_=>simp[oM]at h
       |_=>simp[oM]at h
     |_=>simp[oM]at h
   | s sz es0=>cases x with
     | s sz' es'=>
       have:sz=sz':=by simpa[oM]using h.1
       subst this;simp only[mW,ih]
       congr 2
       exact(show ax es i j=_ by simp only[ax,hx,Ko])
     |_=>simp[oM]at h
   |g=>simp[oM]at h
   |m _ _=>simp[oM]at h
theorem oy {z:ay}{es:af}{i:Int}(hr:Wf z es)(h0:0<=i)(h1:i<es.length):0<=i/\i<es.length/\es.getD i.toNat []=mW ai es i 0 z:=
 ⟨h0,h1,(Ai (t:=[]) (hr.at (by omega)) (by simp)).symm⟩
theorem mJ {sz:Nat}{es:af}{n j:Nat}:bX (.s sz es) [(n,j)]=(es[n]?).map (·,j):=rfl
theorem HN {sz:Nat}{es:af}{n j:Nat}:GI (.s sz es) [(n,j)]=ah es n j:=by
 simp only[GI,pbI,ptI,ah,sn,Q1,JN,mJ,Zx,Zr];cases es[n]? with
 |none=>rfl
 | some e=>
   simp only[Yk,Z9];cases e[j]? with
   |none=>rfl
   | some x=>cases x with
     |v x=>cases x<;>rfl
     |_=>rfl
theorem aay {sz:Nat}{es:af}{n j:Nat}:pbI (.s sz es) [(n,j)]=sn es n j:=by
 simp only[GI,pbI,ptI,ah,sn,Q1,JN,mJ,Zx,Zr];cases es[n]? with
 |none=>rfl
 | some e=>
   simp only[Yk,Z9];cases e[j]? with
   |none=>rfl
   | some x=>cases x with
     |v x=>cases x<;>rfl
     |_=>rfl
theorem aaD {sz:Nat}{es:af}{n j:Nat}:ptI (.s sz es) [(n,j)]=Q1 es n j:=by
 simp only[GI,pbI,ptI,ah,sn,Q1,JN,mJ,Zx,Zr];cases es[n]? with
 |none=>rfl
 | some e=>
   simp only[Yk,Z9];cases e[j]? with
   |none=>rfl
   | some x=>cases x with
     |v x=>cases x<;>rfl
     |_=>rfl
theorem aaC {sz:Nat}{es:af}{n j:Nat}:pw (.s sz es) [(n,j)]=ax es n j:=by
 simp only[pw,ax,iB,mJ,Zx,Zr];cases es[n]? with
 |none=>rfl
 | some e=>
   simp only[Yk,Z9];cases e[j]? with
   |none=>rfl
   |some x=>cases x<;>rfl
theorem PQ:ai.pi=GI:=rfl
theorem PP:ai.pb=pbI:=rfl
theorem PS:ai.pt=ptI:=rfl
theorem PR:ai.ps=pw:=rfl
theorem PM:ai.gi=ah:=rfl
theorem PL:ai.gb=sn:=rfl
theorem PO:ai.gt=Q1:=rfl
theorem PN:ai.gs=ax:=rfl
theorem Fp {sz:Nat}{es:af}{n o:Nat}:∀ {z:ay} {j:Nat},mH ai (.s sz es) [(n,o)] j z=mW ai es n (o+j) z
 |[],j=>rfl
 | z::zs,j=>by
   have ih:mH ai (.s sz es) [(n,o)] (j+1) zs=mW ai es n (o+j+1) zs:=Fp;cases z with
   |v x=>cases x<;>simp only[mH,mW,yO,PQ,PP,PS,PM,PL,PO,HN,aay,aaD,ih]
   |s a b=>simp only[mH,mW,yO,PR,PN,aaC,ih]
   |g=>simp only[mH,mW,ih]
   |m _ _=>simp only[mH,mW,ih]
theorem fZ {z z0:ay}{sz:Nat}{es:af}{n o:Nat}(hr:Wf z0 es)(hn:n<es.length)(hz:(z0.drop o).take z.length=z)(ho:o+z.length<=z0.length):
 ∃ rec o',bX (.s sz es) [(n,o)]=some (rec,o')/\o'+z.length<=rec.length/\(rec.drop o').take z.length=mH ai (.s sz es) [(n,o)] 0 z:=by
 have hf:=hr.at hn;have e1:es[n]?=some (es.getD n []):=by rw[Zr,Zu hn];rfl
 refine⟨es.getD n [],o,by rw[mJ,e1];rfl,?_,?_⟩
 ·rw[wy hf];exact ho
 ·have hf2:ka z (((es.getD n []).drop o).take z.length)=true:=by
   have:=Cu z.length (Ct o hf);rw[hz]at this;exact this
  rw[Fp]
  symm
  exact Ai (t:=((es.getD n []).drop o).drop z.length) hf2 (by rw[Zi,Zx];exact(ZL _ _).symm)
end Go.V
namespace Go.V
inductive Ty where
 |int (k:IntKind)
 |bool
 |str
 |sl (fs:List Ty)
mutual
def dJ:Ty->L->Prop
 | .int k,.v (.int k' n)=>k'=k/\k.has n
 | .bool,.v (.bool _)=>True
 | .str,.v (.string s)=>s.size<=maxLen
 | .sl fs,.s sz es=>sz=fs.length/\es.length<=maxLen/\∀ e∈es,cg fs e
 |_,_=>False
def cg:List Ty->ay->Prop
 |[],[]=>True
 |t::ts,l::ls=>dJ t l/\cg ts ls
 |_,_=>False
end
def shape (P:Program):Nat->TypeId->Option (List Ty)
 |0,_=>none
 | k+1,t=>
   let r:Option (List Ty):=match P.underlying t with
    |some (.int kd)=>some [.int kd]
    |some .bool=>some [.bool]
    |some .string=>some [.str]
    | some (.slice e)=>match shape P k e with
      |some (f::fs)=>if P.cellsOf e=(f::fs).length then some [.sl (f::fs)]else none
      |_=>none
    | some (.struct fs)=>(fs.toList.foldl (fun acc fd=>match acc,shape P k fd.type with
       |some acc,some ts=>if fd.offset=acc.length/\P.cellsOf fd.type=ts.length then some (acc++ts)else none
       |_,_=>none) (some []))
    |_=>none
   match r with
   |some ts=>if P.cellsOf t=ts.length then some ts else none
   |none=>none
theorem tV:∀ {ts us:List Ty} {r s:ay},cg ts r->cg us s->cg (ts++us) (r++s)
 |[],us,[],s,_,h2=>h2
 |[],_,_::_,_,h,_=>by simp[cg]at h
 |_::_,_,[],_,h,_=>by simp[cg]at h
 | t::ts,us,l::ls,s,h,h2=>by
   simp only[cg,List.cons_append]at h ⊢;exact⟨h.1,tV h.2 h2⟩
section
variable {P: Program} {w: World}
theorem Js {sz:Nat}{c:ay->Prop}:∀ (len:Nat) (l:List Value),l.length=len*sz->(∀ i,i<len->∃ rec S,ap w rec ((l.drop (i*sz)).take sz) S/\c rec)->
 ∃ es S,es.length=len/\bH w sz es l S/\∀ e∈es,c e
 |0,l,hl,_=>⟨[],[],rfl,by simp only[bH];exact⟨YK (by simpa using hl),trivial⟩,fun e h=>by cases h⟩
 | len+1,l,hl,h=>by
   obtain⟨rec,S,h1,h2⟩:=h 0 (by omega);have hsz:sz<=l.length:=by rw[hl,Zo];omega
   obtain⟨es,T,k1,k2,k3⟩:=Js (sz:=sz) (c:=c) len (l.drop sz) (by rw[Zt,hl,Zo];omega) (fun i hi=>by
    obtain⟨rec,S,h1,h2⟩:=h (i+1) (by omega);refine⟨rec,S,?_,h2⟩;rw[Yf];rw[show sz+i*sz=(i+1)*sz from by rw[Zo];omega];exact h1)
   refine⟨rec::es,S++T,by simp[k1],?_,?_⟩
   ·simp only[bH];refine⟨l.take sz,l.drop sz,S,T,(ZL _ _).symm,by simp;omega,by simpa using h1,k2,rfl⟩
   ·intro e he;rcases Zn.1 he with rfl|he;exact h2;exact k3 e he
theorem Aa {a:Addr}{n:Nat}{cs:List Value}(h:w.cells? 0 a n=some cs):cs.length=n/\∀ k,k<n->w.cell? (a.add k)=cs[k]?:=by
 unfold World.cells? at h;rw[VR (Zh _)]at h;have hl:=mapM_some_length h;refine⟨by simpa using hl,fun k hk=>mapM_some_get h k k (by simp[hk])⟩
theorem add_add' (a:Addr)(ha:a.spot=none)(i k:Nat):(a.add i).add k=⟨a.block,a.off+i+k,none⟩:=by
 obtain⟨b,o,s⟩:=a;simp only at ha;subst ha;unfold Addr.add;split<;>split<;>simp_all<;>omega
theorem sS {α:Type}{f:Option (List Ty)->α->Option (List Ty)}(hf:∀ x,f none x=none):∀ (l:List α),l.foldl f none=none
 |[]=>rfl
 |x::l=>by rw[Wm,hf];exact sS hf l
theorem vP {H:Type}{enc:TypeId×Value->H}:∀ (k:Nat) (t:TypeId) (ts:List Ty),shape P k t=some ts->∀ (fuel:Nat) (cs:List Value) (x:DataW H×List MemPlace),Xo enc P w 0 (fun _=>true) true fuel t cs=some x->
 ∃ rec S,ap w rec cs S/\cg ts rec
 |0,t,ts,hs,_,_,_,_=>by simp[shape]at hs
 |k+1,t,ts,hs,0,_,_,h=>by simp[Xo]at h
 | k+1,t,ts,hs,fuel+1,cs,x,h=>by
   simp only[shape]at hs;have hcell:P.cellsOf t=ts.length:=by
    split at hs
    ·rename_i r _;split at hs
     ·rename_i hc;cases hs;exact hc
     ·cases hs
    ·cases hs
   unfold Xo at h;cases hu:P.underlying t with
   |none=>simp[hu]at hs
   | some d=>
     simp only[hu]at hs h;cases d with
     | int kd=>
       have:ts=[.int kd]:=by
        simp only at hs;split at hs
        ·cases hs;rfl
        ·cases hs
       subst this
       match cs,h with
       | [.int k' n],h=>
         simp only at h;split at h
         ·rename_i hc;obtain⟨rfl,hwf⟩:=hc;simp only[Lit.wf,Zc,VQ]at hwf;exact⟨[.v (.int k' n)],[],by simp[ap,bQ,scal],by simp only[cg,dJ];exact⟨⟨trivial,hwf⟩,trivial⟩⟩
         ·cases h
     | bool=>
       have:ts=[.bool]:=by
        simp only at hs;split at hs
        ·cases hs;rfl
        ·cases hs
       subst this
       match cs,h with
       |[.bool b],h=>exact⟨[.v (.bool b)],[],by simp[ap,bQ,scal],by simp[cg,dJ]⟩
     | string=>
       have:ts=[.str]:=by
        simp only at hs;split at hs
        ·cases hs;rfl
        ·cases hs
       subst this
       match cs,h with
       | [.string b],h=>
         simp only at h;split at h
         ·rename_i hc;exact⟨[.v (.string b)],[],by simp[ap,bQ,scal],by simp only[cg,dJ];exact⟨hc,trivial⟩⟩
         ·cases h
     | slice e=>
       simp only at hs;cases he:shape P k e with
       |none=>simp[he]at hs
       | some fs=>
         cases fs with
         |nil=>simp[he]at hs
         | cons f fs=>
           simp only[he]at hs;split at hs
           ·rename_i r hr;split at hr
            ·rename_i hce;cases hr;split at hs
             ·cases hs
              match cs,h with
              | [.slice none 0 0],h=>
                refine⟨[.s (f::fs).length []],[],?_,?_⟩
                ·simp only[ap,bQ];exact⟨_,[],[],[],rfl,⟨none,0,0,rfl,rfl,Ze _,Zh _,.inl ⟨rfl,rfl⟩⟩,⟨rfl,rfl⟩,rfl⟩
                ·simp only[cg,dJ];exact⟨⟨trivial,Zh _,fun e h=>by cases h⟩,trivial⟩
              | [.slice (some a) len cap],h=>
                simp only at h;split at h
                ·rename_i hb;obtain⟨_,hlc,hcm⟩:=hb;simp only[if_true,ZD,XY]at h;obtain⟨elems,hel,rest,hrest,_⟩:=h;have hsz:P.cellsOf e=(f::fs).length:=hce;have hszp:0<P.cellsOf e:=by rw[hsz];simp
                 have hat:∀ i,i<cap->∃ ci y,w.cells? 0 (a.add (i*P.cellsOf e)) (P.cellsOf e)=some ci/\Xo enc P w 0 (fun _=>true) true fuel e ci=some y:=by
                  intro i hi;rcases Z3 i len with c|c
                  ·have:=mapM_some_get hel i i (Xg c);have hl:=mapM_some_length hel;simp only[Xt]at hl;rw[Zu (by omega)]at this;simp only[XY]at this;obtain⟨ci,h1,h2⟩:=this;exact⟨ci,_,h1,h2⟩
                  ·have:=mapM_some_get hrest (i-len) (i-len) (Xg (by omega));have hl:=mapM_some_length hrest;simp only[Xt]at hl;rw[Zu (by omega)]at this;simp only[XY]at this;obtain⟨ci,h1,h2⟩:=this;rw[show len+(i-len)=i from by omega]at h1;exact⟨ci,_,h1,h2⟩
                 by_cases hc0:cap=0
                 ·subst hc0;have:len=0:=by omega
                  subst this;refine⟨[.s (f::fs).length []],[],?_,?_⟩
                  ·simp only[ap,bQ];exact⟨_,[],[],[],rfl,⟨some a,0,0,rfl,rfl,Ze _,Zh _,.inl ⟨rfl,rfl⟩⟩,⟨rfl,rfl⟩,rfl⟩
                  ·simp only[cg,dJ];exact⟨⟨trivial,Zh _,fun e h=>by cases h⟩,trivial⟩
                 ·obtain⟨c0,y0,z1,z2⟩:=hat 0 (by omega);have z3:=(Aa z1).2 0 hszp;have hz4:∃ v,w.cell? a=some v:=by
                   rw[Nat.zero_mul]at z3;have:(a.add 0).add 0=a:=rfl;rw[this]at z3;rw[z3];have:=(Aa z1).1;exact⟨_,Zu (by omega)⟩
                  obtain⟨v0,hv0⟩:=hz4;have hblk:∃ cur ty fz,w.heap[a.block]?=some (.cells cur ty fz)/\a.spot=none:=by
                   unfold Yw at hv0;split at hv0
                   ·rename_i cur ty fz hh;refine⟨cur,ty,fz,hh,?_⟩;cases hsp:a.spot with
                    |none=>rfl
                    |some s=>simp[hsp]at hv0
                   ·cases hv0
                  obtain⟨cur,ty,fz,hh,hsp⟩:=hblk;have hcellat:∀ j,w.cell? ⟨a.block,j,none⟩=cur[j]?:=by
                   intro j;unfold Yw;simp[hh]
                  have hel2:∀ i,i<cap->∃ ci y,ci.length=P.cellsOf e/\(∀ kk,kk<P.cellsOf e->cur[a.off+i*P.cellsOf e+kk]?=ci[kk]?)/\Xo enc P w 0 (fun _=>true) true fuel e ci=some y:=by
                   intro i hi;obtain⟨ci,y,h1,h2⟩:=hat i hi;obtain⟨h3,h4⟩:=Aa h1;refine⟨ci,y,h3,fun kk hkk=>?_,h2⟩;rw[<-h4 kk hkk,add_add' a hsp,hcellat]
                  have hfit:a.off+cap*P.cellsOf e<=cur.size:=by
                   obtain⟨ci,y,h1,h2,_⟩:=hel2 (cap-1) (by omega);have:=h2 (P.cellsOf e-1) (by omega);rw[Zu (by omega)]at this;have hlt:=(ZF.1 this).1;have:cap*P.cellsOf e=(cap-1)*P.cellsOf e+P.cellsOf e:=by
                    rw[<-Wn];congr 1;omega
                   omega
                  have hle:len*P.cellsOf e<=cap*P.cellsOf e:=ZK _ hlc;obtain⟨es,S,k1,k2,k3⟩:=Js (w:=w) (sz:=P.cellsOf e) (c:=cg (f::fs)) len ((cur.toList.drop a.off).take (len*P.cellsOf e)) (by simp only[List.length_take,Zt,Array.length_toList];omega) (fun i hi=>by
                   obtain⟨ci,y,h1,h2,h3⟩:=hel2 i (by omega);obtain⟨rec,S,r1,r2⟩:=vP k e (f::fs) he fuel ci y h3;refine⟨rec,S,?_,r2⟩;have:(((cur.toList.drop a.off).take (len*P.cellsOf e)).drop (i*P.cellsOf e)).take (P.cellsOf e)=ci:=by
                    apply ZN;intro kk;have hii:(i+1)*P.cellsOf e<=len*P.cellsOf e:=ZK _ hi;rw[Wn]at hii;simp only[List.getElem?_take,Zy];by_cases ck:kk<P.cellsOf e
                    ·rw[VR ck,VR (by omega), <-h2 kk ck,ZZ];congr 1;omega
                    ·rw[VT ck,ZY (by omega)]
                   rw[this];exact r1)
                  refine⟨[.s (f::fs).length es],a.block::S,?_,?_⟩
                  ·simp only[ap,bQ];refine⟨_,[],a.block::S,[],rfl,⟨some a,len,cap,rfl,k1.symm,hlc,hcm,.inr ⟨a.block,a.off,cur,ty,fz,S,?_,hh,by rw[<-hsz];exact hfit,by rw[<-hsz];exact k2,rfl⟩⟩,⟨rfl,rfl⟩,by simp⟩;obtain⟨b,o,s⟩:=a;simp only at hsp;subst hsp;rfl
                  ·simp only[cg,dJ];exact⟨⟨trivial,by omega,k3⟩,trivial⟩
                ·cases h
             ·cases hs
            ·cases hr
           ·cases hs
     | struct fs=>
       simp only at hs;generalize hfold:(fs.toList.foldl (fun acc fd=>match acc,shape P k fd.type with
        |some acc,some ts=>if fd.offset=acc.length/\P.cellsOf fd.type=ts.length then some (acc++ts)else none
        |_,_=>none) (some []))=r at hs
       cases r with
       |none=>cases hs
       | some ts0=>
         simp only at hs;by_cases hc0:P.cellsOf t=ts0.length
         case neg=>rw[VT hc0]at hs;cases hs
         rw[VR hc0]at hs;cases hs;simp only at h;split at h
         ·rename_i hcl;simp only[ZD]at h;obtain⟨xs,hxs,_⟩:=h;have key:∀ (l:List Field) (acc:List Ty) (xs:List (DataW H×List MemPlace)),l.foldl (fun acc fd=>match acc,shape P k fd.type with
           |some acc,some ts=>if fd.offset=acc.length/\P.cellsOf fd.type=ts.length then some (acc++ts)else none
           |_,_=>none) (some acc)=some ts->l.mapM (fun f=>Xo enc P w 0 (fun _=>true) true fuel f.type ((cs.drop f.offset).take (P.cellsOf f.type)))=some xs->
           ∃ tl,ts=acc++tl/\∃ rec S,ap w rec ((cs.drop acc.length).take tl.length) S/\cg tl rec:=by
           intro l
           induction l with
           |nil=>intro acc xs h _;simp only[List.foldl_nil,Yl]at h;exact⟨[],by simp[h],[],[],by simp[ap],by simp[cg]⟩
           | cons fd l ih=>
             intro acc xs h hm;rw[Wm]at h;cases hsf:shape P k fd.type with
             |none=>simp only[hsf]at h;rw[sS (fun _=>rfl)]at h;cases h
             | some us=>
               simp only[hsf]at h;by_cases hc:fd.offset=acc.length/\P.cellsOf fd.type=us.length
               ·rw[VR hc]at h;simp only[List.mapM_cons,Option.bind_eq_bind,XY]at hm;obtain⟨y,hy,ys,hys,_⟩:=hm;obtain⟨tl,e1,rec,S,r1,r2⟩:=ih (acc++us) ys h hys;obtain⟨rec0,S0,q1,q2⟩:=vP k fd.type us hsf fuel _ y hy;refine⟨us++tl,by rw[e1,List.append_assoc],rec0++rec,S0++S,?_,tV q2 r2⟩;have e2:(cs.drop acc.length).take (us++tl).length=(cs.drop fd.offset).take (P.cellsOf fd.type)++(cs.drop (acc++us).length).take tl.length:=by
                 rw[hc.1,hc.2,Zd,Zd,List.take_add,Yf]
                rw[e2];exact q1.append r1
               ·rw[VT hc]at h;rw[sS (fun _=>rfl)]at h;cases h
          obtain⟨tl,e1,rec,S,r1,r2⟩:=key fs.toList [] xs hfold hxs;simp only[ZI]at e1;subst e1;refine⟨rec,S,?_,r2⟩;rw[hcell]at hcl
          simpa[<-hcl]using r1
         ·cases h
     |_=>simp at hs
end
end Go.V
namespace Go.V
open Go.ChangeShapes Go.WideShapes Go.ChangeAt Go.RowKit
def Io:Bool->ay->DV
 |true,rec=>.agg rec
 |false,[l]=>.one l
 |false,rec=>.agg rec
def Dh:List (Bool×List Ty)->af->List DV
 |(b,_)::sh,r::rs=>Io b r::Dh sh rs
 |_,_=>[]
def Fi:List (Bool×List Ty)->af->Prop
 |[],[]=>True
 |(_,ts)::sh,r::rs=>cg ts r/\Fi sh rs
 |_,_=>False
def FG (P:Program)(t:TypeId):Bool:=match P.underlying t with
 |some (.struct _)=>true
 |_=>false
def El (P:Program)(t:TypeId):Option (Bool×List Ty):=(shape P 12 t).map (FG P t, ·)
section
variable {P: Program} {w: World} {H: Type} {enc: TypeId × Value -> H}
theorem M1 {t:TypeId}{b:Bool}{ts:List Ty}(hs:El P t=some (b,ts)){base:Nat}{v:Value}(hok:YW P w .any base t v){d:DataW H}{ps:List MemPlace} 
 (h:DataW.Trod enc P w 0 (fun _=>true) true t v d ps):∃ rec S,cg ts rec/\jy w (Io b rec) v S:=by
 unfold El at hs;cases hsh:shape P 12 t with
 |none=>simp[hsh]at hs
 | some ts'=>
   simp only[hsh,Yk,Yl,WW]at hs;obtain⟨hb,rfl⟩:=hs;obtain⟨fuel,h⟩:=h;obtain⟨rec,S,h1,h2⟩:=vP _ _ _ hsh _ _ _ h;refine⟨rec,S,h2,?_⟩;unfold FG at hb;cases hu:P.underlying t with
   |none=>simp[shape,hu]at hsh
   | some ud=>
     have hcell:∀ (hv:v.cells= #[v]) (hbf:b=false),∃ l,rec=[l]/\jy w (Io b rec) v S:=by
      intro hv hbf;rw[hv]at h1;have hl:=h1.length;simp only[Zp,Zs]at hl;obtain⟨l,rfl⟩:=List.length_eq_one_iff.1 hl.symm;refine⟨l,rfl,?_⟩;simp only[ap]at h1;obtain⟨v',vs',S1,S2,e,q1,⟨rfl,rfl⟩,rfl⟩:=h1;simp at e;obtain⟨rfl,_⟩:=e;rw[hbf]
      simpa[Io,jy]using q1
     cases ud with
     | struct fs=>
       simp only[hu]at hb;subst hb;simp only[YW,hu]at hok;obtain⟨cs,rfl,_,_⟩:=hok;exact⟨cs.toList,by simp,h1⟩
     | int k=>
       simp only[YW,hu,XZ,X0]at hok;split at hok<;>first|exact hok.elim|skip
       all_goals first|(obtain⟨l,rfl,h3⟩:=hcell rfl (by simpa[hu]using hb.symm);exact h3)|(rename_i hx _;cases hx)
     | bool=>
       simp only[YW,hu,XZ,X0]at hok;split at hok<;>first|exact hok.elim|skip
       all_goals first|(obtain⟨l,rfl,h3⟩:=hcell rfl (by simpa[hu]using hb.symm);exact h3)|(rename_i hx _;cases hx)
     | string=>
       simp only[YW,hu,XZ,X0]at hok;split at hok<;>first|exact hok.elim|skip
       all_goals first|(obtain⟨l,rfl,h3⟩:=hcell rfl (by simpa[hu]using hb.symm);exact h3)|(rename_i hx _;cases hx)
     | slice e=>
       simp only[YW,hu,XZ,X0]at hok;split at hok<;>first|exact hok.elim|skip
       all_goals first|(obtain⟨l,rfl,h3⟩:=hcell rfl (by simpa[hu]using hb.symm);exact h3)|(rename_i hx _;cases hx)
     |_=>simp[shape,hu]at hsh
theorem jy.arg {d:DV}{v:Value}{S:List Nat}(h:jy w d v S):qt w d v S:=by
 cases d with
 |one l=>exact h
 |agg l=>exact h
 |_=>exact h.elim
theorem CP:∀ (ts:List TypeId) (sh:List (Bool×List Ty)) (vs:List Value) (ds:List (DataW H)) (ps:List MemPlace) (base:Nat),(ts.map (El P))=sh.map some->
 (∀ (j:Nat) t v,ts[j]?=some t->vs[j]?=some v->YW P w .any base t v)->X1 enc P w 0 (fun _=>true) true ts vs ds ps->
 ∃ recs,Fi sh recs/\hP (fun _=>True) w (Dh sh recs) vs
 | [],[],vs,ds,ps,base,_,_,h=>by
   obtain⟨rfl,rfl,rfl⟩:=trodAll_nil h;exact⟨[],trivial,rfl⟩
 |[],_::_,_,_,_,_,h,_,_=>by simp at h
 |_::_,[],_,_,_,_,h,_,_=>by simp at h
 | t::ts,(b,us)::sh,vs,ds,ps,base,hsh,hok,h=>by
   simp only[ZX,Yg]at hsh;obtain⟨v,vs',d,ds',p,q,rfl,rfl,rfl,h1,h2⟩:=trodAll_cons h;obtain⟨rec,S,r1,r2⟩:=M1 hsh.1 (hok 0 t v rfl rfl) h1;obtain⟨recs,k1,k2⟩:=CP ts sh vs' ds' q base hsh.2 (fun j t' v' e1 e2=>hok (j+1) t' v' (by simpa using e1) (by simpa using e2)) h2;exact⟨rec::recs,⟨r1,k1⟩,v,vs',S,rfl,r2.arg,fun _ _=>trivial,k2⟩
theorem Same.below {w w':World}(h:Same (fun _=>True) w w'):Below w.heap.size w w':=⟨h.os,h.tape,h.output,h.size,fun k hk=>h.block k hk trivial⟩
theorem Same.keptBut {w w':World}(h:Same (fun _=>True) w w')(may:MemPlace->Prop):w.keptBut w' may:=by
 refine⟨h.os,h.output,fun i hi=>?_⟩;rw[h.block i hi trivial];cases w.heap[i]? with
 |none=>rfl
 | some o=>cases o with
   |cells c t fr=>exact⟨rfl,rfl,rfl,fun _ _=>rfl⟩
   |map es clock=>exact .inr ⟨rfl,rfl⟩
   |_=>rfl
theorem sG {w':World}(hl:laidOutB P=true)(hb:Below w.heap.size w w'):∀ (ts:List TypeId) (vs:List Value) (ds:List (DataW H)) (ps:List MemPlace),(ts.all fun t=>P.readableRec t&&decide (t<P.types.size))=true->
 X1 enc P w 0 (fun _=>true) true ts vs ds ps->(∀ x∈ps,x.block<w.heap.size)->X1 enc P w' 0 (fun b=>decide (b<w.heap.size)) true ts vs ds ps
 | [],vs,ds,ps,_,h,_=>by
   obtain⟨rfl,rfl,rfl⟩:=trodAll_nil h;exact trodAll_mk0
 | t::ts,vs,ds,ps,hr,h,hlt=>by
   obtain⟨v,vs',d,ds',p,q,rfl,rfl,rfl,h1,h2⟩:=trodAll_cons h;simp only[List.all_cons,Zc,VQ]at hr;exact⟨p,q,Below.trod hl hr.1.1 hr.1.2 h1 hb (fun x hx=>hlt x (by simp[hx])),sG hl hb ts vs' ds' q (by simpa using hr.2) h2 (fun x hx=>hlt x (by simp[hx])),rfl⟩
theorem JW {f:FuncId}{fn:Func}{s:ChangeSpec}{sh:List (Bool×List Ty)}{tb:TypeId}(hvars:s.vars=[])(hspec:∀ ds:List (DataW H),ds.length=fn.params.toList.length->s.fn H (ds++[])=⟨[.lit (.bool true)],ds,[]⟩) 
 (hrt:fn.resultTypes= #[tb]) (htb:P.underlying tb=some .bool) (hl:laidOutB P=true) (hread:(fn.params.toList.all fun t=>P.readableRec t&&decide (t<P.types.size))=true)
 (hsh:fn.params.toList.map (El P)=sh.map some) (hctr:∀ recs,Fi sh recs->Ku P f (Dh sh recs) [.k true])
 {base:Nat} {args:Array Value} {ds gs:List (DataW H)} {before:List MemPlace} (hval:∀ (j:Nat) t v,fn.params[j]?=some t->args[j]?=some v->YW P w .any base t v)
 (hW:DataW.Whole enc P fn.params.toList s.vars false w args.toList ds gs before):
 Calls P f args w fun e w'=>∃ v,e=.returned v/\s.post enc P fn false true false false w args v w':=by
 have hW':=hW;obtain⟨p,q,hA,hV,rfl,hfz,hnd⟩:=hW;rw[hvars]at hV;obtain⟨rfl,rfl⟩:=trodVars_none hV;obtain⟨recs,h1,h2⟩:=CP fn.params.toList sh args.toList ds p base hsh (fun j t v e1 e2=>hval j t v (by simpa using e1) (by simpa using e2)) hA;have hc:=hctr recs h1 w args.toList h2;rw[Array.toArray_toList]at hc;refine hc.mono ?_;rintro e w' ⟨v,S,rfl,hr,_,_,hsame⟩;simp only[hZ,jy,bQ]at hr;obtain⟨rfl,_,_⟩:=hr;have hlen:∀ (ts:List TypeId) (vs:List Value) (ds:List (DataW H)) (ps:List MemPlace),X1 enc P w 0 (fun _=>true) true ts vs ds ps->ds.length=ts.length:=by
  intro ts
  induction ts with
  |nil=>intro vs ds ps h;obtain⟨_,rfl,_⟩:=trodAll_nil h;rfl
  |cons t ts ih=>intro vs ds ps h;obtain⟨v,vs',d,ds',p,q,rfl,rfl,rfl,_,h2⟩:=trodAll_cons h;simp[ih _ _ _ h2]
 have e1:s.fn H (ds++[])=⟨[.lit (.bool true)],ds,[]⟩:=hspec ds (hlen _ _ _ _ hA);refine⟨_,rfl,ds,[],p++[],[],p,[],hW',?_,?_,?_,hsame.keptBut _,fun h=>by cases h⟩
 ·rw[e1,hrt];exact trodAll_mk1 (shut_bool htb true)
 ·rw[e1];exact sG hl hsame.below _ _ _ _ hread hA (fun x hx=>hW'.lt x (by simpa using hx))
 ·rw[e1,hvars];rfl
end
end Go.V
namespace Go.V
theorem bF {a b:Int}(h: -9223372036854775808<=a+b/\a+b<=9223372036854775807):bO .add Za a b=a+b:=Xp _ h
theorem di {a b:Int}(h: -9223372036854775808<=a-b/\a-b<=9223372036854775807):bO .sub Za a b=a-b:=Xp _ h
theorem fa {i:Int}{n:Nat}(h0:0<=i)(h1:i<n)(hn:n<=4611686018427387904):bO .add Za i 1=i+1:=bF (by omega)
theorem fL {α:Type}{es:List α}{d:α}{i:Nat}(hi:i<es.length):es.take (i+1)=es.take i++[es.getD i d]:=by
 rw[List.take_succ_eq_append_getElem hi,Zr,Zu hi];rfl
def cG (es:af)(z:ay)(i:Nat):af:=es.take i++ZV (es.length-i) z
theorem dS {es:af}{z:ay}:cG es z 0=ZV es.length z:=by simp[cG]
theorem Cp {es:af}{z:ay}:cG es z es.length=es:=by simp[cG]
theorem lC {es:af}{z:ay}{i:Nat}(hi:i<=es.length):(cG es z i).length=es.length:=by simp[cG];omega
theorem Cq {es:af}{z:ay}{i:Nat}(hi:i<es.length):(cG es z i).set i (es.getD i [])=cG es z (i+1):=by
 unfold cG;rw[fL (d:=[]) hi,List.set_append_right _ _ (by simp;omega)];have:(es.take i).length=i:=by simp;omega
 rw[this,Xd];rw[show es.length-i=(es.length- (i+1))+1 from by omega,List.replicate_succ,List.set_cons_zero];simp
theorem pj {es:af}{z:ay}{i:Nat}(hi:i<es.length):(cG es z i).getD i []=z:=by
 unfold cG;have:(es.take i).length=i:=by simp;omega
 rw[Zr,ZJ (by omega),this,Xd,List.getElem?_replicate];rw[VR (by omega)];rfl
theorem ny {sz:Nat}{es:af}{n:Nat}{new:ay}(h:(es.getD n []).length=new.length):sH (.s sz es) [(n,0)] new=es.set n new:=by
 simp only[sH,pD,rowOf,List.take_zero,ZI,Zv];rw[List.drop_of_length_le (by omega),Z2]
theorem gV {sz:Nat}{es:af}{n o m:Nat}(hn:n<es.length)(hl:o+m<=(es.getD n []).length):∃ rec o',bX (.s sz es) [(n,o)]=some (rec,o')/\o'+m<=rec.length:=by
 refine⟨es.getD n [],o,?_,hl⟩;rw[mJ,Zr,Zu hn];rfl
theorem au {z:ay}{es:af}{i:Int}(hr:Wf z es)(h0:0<=i)(h1:i<es.length):mW ai es i 0 z=es.getD i.toNat []:=(oy hr h0 h1).2.2.symm
theorem Oj {a b:Int}:(dB .eql a b=true)↔a=b:=by simp[dB]
theorem Oi {a b:Int}:(dB .eql a b=false)↔a≠b:=by simp[dB]
theorem Ow {a b:Int}:(dB .neq a b=true)↔a≠b:=by simp[dB]
theorem Ov {a b:Int}:(dB .neq a b=false)↔a=b:=by simp[dB]
theorem Ou {a b:Int}:(dB .lss a b=true)↔a<b:=by simp[dB]
theorem Ot {a b:Int}:(dB .lss a b=false)↔b<=a:=by simp[dB]
theorem Or {a b:Int}:(dB .leq a b=true)↔a<=b:=by simp[dB]
theorem Oq {a b:Int}:(dB .leq a b=false)↔b<a:=by simp[dB]
theorem Oo {a b:Int}:(dB .gtr a b=true)↔b<a:=by simp[dB]
theorem On {a b:Int}:(dB .gtr a b=false)↔a<=b:=by simp[dB]
theorem Om {a b:Int}:(dB .geq a b=true)↔b<=a:=by simp[dB]
theorem Ol {a b:Int}:(dB .geq a b=false)↔a<b:=by simp[dB]
theorem afY {b:Bool}:(SN b=true)↔b=false:=by cases b<;>simp[SN]
theorem afX {b:Bool}:(SN b=false)↔b=true:=by cases b<;>simp[SN]
theorem KW {a b:Bool}:(JI .eql a b=true)↔a=b:=by simp[JI]
theorem KV {a b:Bool}:(JI .eql a b=false)↔a≠b:=by simp[JI]
theorem KY {a b:Bool}:(JI .neq a b=true)↔a≠b:=by simp[JI]
theorem KX {a b:Bool}:(JI .neq a b=false)↔a=b:=by simp[JI]
theorem az {i:Int}:adI 0 i=i.toNat:=Zv _
theorem qg {n b:Nat}(h:n*b<=70368744177664)(hn:n<=70368744177664):0<=Sc n/\Sc n<=Sc n/\Sc n*(b:Int)<=70368744177664/\Sc n<=70368744177664:=by
 unfold Sc;refine⟨by omega,by omega,?_,by omega⟩;rw[<-Int.natCast_mul];omega
theorem nc {n:Nat}:(VN n:Int)=WB n:=rfl
theorem sa {es:af}:rB es 0 es.length=es:=by simp[rB]
end Go.V
namespace Go.V
def pp:Nat->ay->List Hv
 |_,[]=>[]
 | i,l::ls=>match l with
   | .s sz es=>⟨0,0,some i,.own (.s sz es)⟩::pp (i+1) ls
   | .v x=>⟨0,0,none,.own (.v x)⟩::pp i ls
   | .g=>⟨0,0,none,.own .g⟩::pp i ls
   | .m kb es=>⟨0,0,none,.own (.m kb es)⟩::pp i ls
def DT (O:GZ):Nat->Nat->List DV->List W
 |_,_,[]=>[]
 |p,i,d::ds=>.root p false (pp i (aS d)):: .reg p (F1 O p 0 d)::DT O (p+1) (i+(slL (aS d)).length) ds
def IL (O:GZ)(ds:List DV):VS:=push [] (DT O 0 0 ds)
def Jd {α:Type}(pr:(Unit->Prop)->Prop)(os:Nat->L):List (Nat×Nat)->Nat->Rd α->Rd α
 |[],_,k=>k
 | (r,j)::ps,i,k=>jx r j fun h=>match h.org with
  | some i'=>if Z1 i' i then match h.c with
    | .own (.s sz es)=>.req (pr fun _=>L.s sz es=os i) (Jd pr os ps (i+1) k)
    |_=>.fail
    else .fail
  |none=>.fail
def Jz (T:yN)(O:GZ)(ts:List TypeId)(rvs:List ResultVar)(locs:List (Nat×Nat))(σ:VS)(res:List DV)(outs:Nat->L):Prop:=
 (AS T O ts rvs fun ds srcs=>if bp (srcs++locs)then .req (O.pr fun _=>ds=res) (Jd O.pr outs locs 0 (.ret ()))else .fail).wpU (get σ) [] fun _ _=>True
def acb (T:yN)(O:GZ)(ts:List TypeId)(rvs:List ResultVar)(locs:List (Nat×Nat))(res:List DV)(outs:Nat->L):Ex->VS->Prop
 | .normal,σ=>Jz T O ts rvs locs σ res outs
 | .ret,σ=>Jz T O ts rvs locs σ res outs
 | .exit _,_=>False
section
variable {P: Program} {cx: Cx} {G: Gh} {g: Gm} {a: Act} {w: World}
theorem ug:∀ {ls:ay} {vs:List Value} {i:Nat},vs.length=ls.length->(∀ k v,(Em ls vs)[k]?=some v->cx.anc (i+k)=v)->∀ (j:Nat) (h:Hv),(pp i ls)[j]?=some h->
 ∃ l v og,ls[j]?=some l/\vs[j]?=some v/\h=⟨0,0,og,.own l⟩/\fw cx h.c h.org v
 |[],vs,i,_,_,j,h,e=>by simp[pp]at e
 |l::ls,[],i,hl,_,j,h,e=>by simp at hl
 | l::ls,v::vs,i,hl,ha,j,h,e=>by
   cases l with
   | s sz es=>
     simp only[pp]at e;cases j with
     | zero=>
       simp at e;subst e;refine⟨_,v,some i,rfl,rfl,rfl,fun k hk _=>?_⟩;cases hk;exact(ha 0 v (by simp[Em])).symm
     | succ j=>
       obtain⟨l,v',og,e1,e2,e3,e4⟩:=ug (ls:=ls) (vs:=vs) (i:=i+1) (by simpa using hl) (fun k v hk=>by rw[show i+1+k=i+(k+1)from by omega];exact ha (k+1) v (by simpa[Em]using hk)) j h (by simpa using e);exact⟨l,v',og,by simpa using e1,by simpa using e2,e3,e4⟩
   | v x=>
     simp only[pp]at e;cases j with
     |zero=>simp at e;subst e;exact⟨_,v,none,rfl,rfl,rfl,fw.none⟩
     | succ j=>
       obtain⟨l,v',og,e1,e2,e3,e4⟩:=ug (ls:=ls) (vs:=vs) (i:=i) (by simpa using hl) (fun k v hk=>ha k v (by simpa[Em]using hk)) j h (by simpa using e);exact⟨l,v',og,by simpa using e1,by simpa using e2,e3,e4⟩
   | g=>
     simp only[pp]at e;cases j with
     |zero=>simp at e;subst e;exact⟨_,v,none,rfl,rfl,rfl,fw.none⟩
     | succ j=>
       obtain⟨l,v',og,e1,e2,e3,e4⟩:=ug (ls:=ls) (vs:=vs) (i:=i) (by simpa using hl) (fun k v hk=>ha k v (by simpa[Em]using hk)) j h (by simpa using e);exact⟨l,v',og,by simpa using e1,by simpa using e2,e3,e4⟩
   | m kb es=>
     simp only[pp]at e;cases j with
     |zero=>simp at e;subst e;exact⟨_,v,none,rfl,rfl,rfl,fw.none⟩
     | succ j=>
       obtain⟨l,v',og,e1,e2,e3,e4⟩:=ug (ls:=ls) (vs:=vs) (i:=i) (by simpa using hl) (fun k v hk=>ha k v (by simpa[Em]using hk)) j h (by simpa using e);exact⟨l,v',og,by simpa using e1,by simpa using e2,e3,e4⟩
theorem JZ {ls:ay}{i j:Nat}{l:L}(h:ls[j]?=some l):∃ og,(pp i ls)[j]?=some ⟨0,0,og,.own l⟩:=by
 induction ls generalizing i j with
 |nil=>simp at h
 | cons x ls ih=>
   cases j with
   |zero=>simp at h;subst h;cases x<;>exact⟨_,rfl⟩
   | succ j=>
     simp at h;cases x with
     |s sz es=>obtain⟨og,e⟩:=ih (i:=i+1) h;exact⟨og,by simpa[pp]using e⟩
     |v y=>obtain⟨og,e⟩:=ih (i:=i) h;exact⟨og,by simpa[pp]using e⟩
     |g=>obtain⟨og,e⟩:=ih (i:=i) h;exact⟨og,by simpa[pp]using e⟩
     |m _ _=>obtain⟨og,e⟩:=ih (i:=i) h;exact⟨og,by simpa[pp]using e⟩
theorem pE:∀ {ls:ay} {vs:List Value},vs.length=ls.length->(Em ls vs).length=(slL ls).length
 |[],[],_=>rfl
 |[],_::_,h=>by simp at h
 |_::_,[],h=>by simp at h
 | l::ls,v::vs,h=>by
   have ih:=pE (ls:=ls) (vs:=vs) (by simpa using h);cases l<;>simp[Em,slL,ih]
theorem MW {a:Act}{p:Nat}{v:Value}(hp:p<a.tmps.size)(h:a.tmps.getD p undef=v):a.put (some p) v=a:=by
 obtain⟨t,d⟩:=a;simp only[ZS]at*
 congr 1
 apply Array.ext_getElem?;intro i;rw[Array.getElem?_setIfInBounds];by_cases e:p=i
 ·subst e;rw[VR rfl,VR hp];rw[<-h,Yx,Xn hp];rfl
 ·rw[VT e]
theorem Av:∀ (ds:List DV) (p i:Nat) (vs:List Value) (S:List Nat) (g:Gm) (G:Gh),aQ cx G g a w->(∀ r,p<=r->g (.meta_ r)=none)->bU w ds vs S->S.Nodup->
 (∀ b∈S,ft w b/\G.ow b=some (.leaf cx.n 0))->p+ds.length<=cx.n->(∀ k v,vs[k]?=some v->a.tmps.getD (p+k) undef=v)->(∀ k v,(dK ds vs)[k]?=some v->cx.anc (i+k)=v)->
 gw cx (bz g (DT ai p i ds)) a w
 |[],p,i,vs,S,g,G,hS,_,_,_,_,_,_,_=>⟨G,hS⟩
 | d::ds,p,i,vs,S,g,G,hS,hm,hr,hnd,htok,hn,hv,ha=>by
   simp only[bU]at hr;obtain⟨v,vs',S1,S2,rfl,h1,h2,rfl⟩:=hr;rw[Zw]at hnd;obtain⟨n1,n2,n3⟩:=hnd;obtain⟨lv,q1,q2,q3,q4⟩:∃ lv,ap w (aS d) lv S1/\(∀ dl,d=.one dl->lv=[v])/\(∀ dls,d=.agg dls->v=.agg lv.toArray)/\dK (d::ds) (v::vs')=Em (aS d) lv++dK ds vs':=by
    cases d with
    |one l=>exact⟨[v],by simp only[aS,ap];exact⟨v,[],S1,[],rfl,h1,⟨rfl,rfl⟩,by simp⟩,fun _ _=>rfl,(fun _ e=>by cases e),rfl⟩
    |agg ls=>obtain⟨us,rfl,h1'⟩:=h1;exact⟨us,h1',(fun _ e=>by cases e),(fun _ e=>by cases e;rfl),by simp[dK,aS]⟩
    |_=>exact h1.elim
   obtain⟨Ss,s1,s2,s3⟩:=q1.items;have hlen:=q1.length;have ha1:∀ k v,(Em (aS d) lv)[k]?=some v->cx.anc (i+k)=v:=by
    intro k u hk;refine ha k u ?_;rw[q4,ZW (ZG.1 hk).1];exact hk
   have hat:=fun j h=>ug (cx:=cx) (ls:=aS d) (vs:=lv) (i:=i) hlen ha1 j h
   have hnone:gl g cx.n 0=none:=by
    cases e:gl g cx.n 0 with
    |none=>rfl
    | some y=>
      obtain⟨_,k,bx,_,e2,_⟩:=hS.leaf cx.n 0 _ (aO.1 e);rw[hm cx.n (by simp at hn;omega)]at e2;cases e2
   obtain⟨G',k1,k2,_,_,k5⟩:=hS.newRoot (hm p (Ze _)) false (pp i (aS d)) w (Same.refl _ _) (fun j=>lv.getD j undef) (fun j=>Ss.getD j [])
    (by
      intro j h hj;obtain⟨l,u,og,e1,e2,e3,_⟩:=hat j h hj;obtain⟨u',z1,z2⟩:=s3 j l e1;rw[e3];simp only[Kk];refine⟨by simpa[ZA,z1]using z2,iC (by rw[s1];exact n1) j,fun b hb=>?_⟩;have:=htok b (Zg.2 (.inl (by rw[<-s1];exact eZ hb)));exact⟨this.1,.inr ⟨cx.n,0,this.2,fun h l e=>by rw[hnone]at e;cases e⟩⟩)
    (by
      intro j h hj;obtain⟨l,u,og,e1,e2,e3,e4⟩:=hat j h hj;have:lv.getD j undef=u:=by simp[ZA,e2]
      rw[this];exact e4)
    (fun i j _ _ hij=>fS (by rw[s1];exact n1) i j hij) 0 0 (by simp)
   have hpn:p<cx.n:=by simp at hn;omega
   have hg:∀ j l,(aS d)[j]?=some l->∃ og,gl ((W.root p false (pp i (aS d))).app g) p (0+j)=some ⟨0,0,og,.own l⟩:=by
    intro j l e;obtain⟨og,e2⟩:=JZ (i:=i) e;exact⟨og,by simp[gl,W.app,e2]⟩
   have hrok:da (gl ((W.root p false (pp i (aS d))).app g)) G' w (FZ p 0 d) v:=by
    refine Jr h1 hg ?_;intro lv' z1 z2 z3 j u e;have:lv'=lv:=by
     cases d with
     |one l=>rw[z2 l rfl,q2 l rfl]
     |agg ls=>have e1:=z3 ls rfl;rw[q3 ls rfl]at e1;simpa using e1.symm
     |_=>exact h1.elim
    subst this;rw[k2,Zv];simp[ZA,e]
   have hput:=k1.put hpn hrok;have hself:a.put (some p) v=a:=MW (by rw[hS.tm];exact hpn) (by have:=hv 0 v (by simp);simpa using this);rw[hself]at hput;simp only[DT,bz,AT];refine Av ds (p+1) _ vs' S2 _ G' hput ?_ h2 n2 ?_ (by simp at hn;omega) ?_ ?_
   ·intro r hr;simp only[W.app];rw[VT (by intro e;cases e),VT (by omega)];exact hm r (by omega)
   ·intro b hb;have:=htok b (Zg.2 (.inr hb));refine⟨this.1,?_⟩;rw[k5 b (by simp) (fun j _ hbj=>n3 b (by rw[<-s1];exact eZ hbj) b hb rfl)];exact this.2
   ·intro k u e;rw[show p+1+k=p+(k+1)from by omega];exact hv (k+1) u (by simpa using e)
   ·intro k u e;have hsl:=pE hlen;rw[show i+(slL (aS d)).length+k=i+((Em (aS d) lv).length+k)from by rw[hsl];omega];refine ha _ u ?_;rw[q4,ZJ (by omega)]
    simpa using e
end
end Go.V
namespace Go.V
def adD {Φ:Type}(_:Φ):MT:=fun _=>none
def noC {Φ:Type}(_:Φ):CT:=fun _ _=>none
section
variable {P: Program} {T: yN} {cx: Cx} {G: Gh} {g: Gm} {a: Act} {w: World}
theorem JP (n:Nat)(w:World)(ds:List DV)(vs:List Value)(S:List Nat)(hr:bU w ds vs S)(hnd:S.Nodup)(hunf:∀ b∈S,ft w b)(hn:ds.length<=n):
 gw ⟨n,w,fun b=>b∉S,fun i=>(dK ds vs).getD i undef,fun _=>none,fun _=>0,fun _=>True⟩ (get (IL ai ds)) {tmps:=vs.toArray++Y7 (n-vs.toArray.size) undef,defers:=[]} w:=by
 have hlen:∀ (ds:List DV) (vs:List Value) (S:List Nat),bU w ds vs S->vs.length=ds.length:=by
  intro ds
  induction ds with
  |nil=>intro vs S h;simp only[bU]at h;simp[h.1]
  |cons d ds ih=>intro vs S h;simp only[bU]at h;obtain⟨v,vs',S1,S2,rfl,_,h2,_⟩:=h;simp[ih _ _ h2]
 have hl:=hlen ds vs S hr
 open Classical in
 let G:Gh:={loc:=fun _=>none,val:=fun _ _=>undef,fp:=fun _ _=>[],ow:=fun b=>if b∈S then some (.leaf n 0)else if b<w.heap.size then some .ro else none,lead:=id}
 unfold IL;rw[Al];refine Av ds 0 0 vs S (get []) G ?_ (fun _ _=>rfl) hr hnd (fun b hb=>⟨hunf b hb,by simp[G,hb]⟩) (by simp;omega) ?_ ?_
 ·refine⟨rfl,by simp;omega,?_,?_,?_,?_,?_,?_,Same.refl _ _,?_,?_,?_,(fun r b o e=>by cases e),(fun r1 r2 k1 k2 b o1 o2 _ e=>by simp[get]at e),(fun r b o e=>by cases e),fun _ _=>trivial⟩
  ·intro d x hx;cases hx
  ·intro r k hk;cases hk
  ·intro r j x hx;cases hx
  ·intro r x hx;cases hx
  ·intro r b hb;cases hb
  ·intro b t hb;by_cases c:b∈S;exact(hunf b c).lt
   ·by_cases c2:b<w.heap.size;exact c2
    ·simp[G,c,c2]at hb
  ·intro b hb hf;have hf:b∉S:=hf;have hb:b<w.heap.size:=hb
   right;simp[G,hf,hb]
  ·intro r j h e;simp[gl,get]at e
  ·intro r x e;cases e
 ·intro k v e;have hk:k<vs.length:=(ZG.1 e).1;simp only[Zv,Yx];rw[Ws (by simpa using hk)];simp[e]
 ·intro k v e;simp only[Zv,Zr,e];rfl
theorem wK (hS:aQ cx G g a w){α:Type}{k:Rd α}{os:Nat->L}:∀ (locs:List (Nat×Nat)) (i:Nat) (ls:List Loc) (out:α),(Jd ou os locs i k).Runs g ls out->
 (∀ p∈locs,∃ h sz es,g (.leaf p.1 p.2)=some (.h h)/\h.c=.own (.s sz es))/\ap w ((Y5 i locs.length).map os) ((Y5 i locs.length).map cx.anc) (oN G locs)
 |[],i,ls,out,h=>⟨(fun p hp=>by cases hp),by simp[ap,oN]⟩
 | (r,j)::ps,i,ls,out,h=>by
  obtain⟨hv,ls2,q1,q2,hk⟩:=bE (k:=fun h=>match h.org with
   | some i'=>if Z1 i' i then match h.c with
     | .own (.s sz es)=>.req (ou fun _=>L.s sz es=os i) (Jd ou os ps (i+1) k)
     |_=>.fail
     else .fail
   |none=>.fail) h
  cases ho:hv.org with
  |none=>simp[ho,Rd.Runs]at hk
  | some i'=>
    simp only[ho]at hk;split at hk
    case isFalse=>exact hk.elim
    rename_i hb;have hi:=Ys hb;subst hi;split at hk
    ·rename_i sz es hc;obtain⟨hp,hk⟩:=hk;have hp:L.s sz es=os i':=hp;obtain⟨k1,k2⟩:=wK hS ps (i'+1) _ _ hk;have hval:=hS.anc r j hv q1 i' ho ⟨_,.inl hc⟩;have hok:=hS.hok q1;simp only[ff,hc]at hok;refine⟨fun p hp=>?_,?_⟩
     ·rcases Zn.1 hp with rfl|hp;exact⟨hv,sz,es,q2,hc⟩;exact k1 p hp
     ·simp only[ap,Zp,List.range'_succ,ZX];exact⟨_,_,G.fp r j,oN G ps,rfl,by rw[<-hval, <-hp];exact hok.1,k2,rfl⟩
    ·exact hk.elim
theorem qB:∀ {ds:List DV} {vs:List Value} {S:List Nat},bU w ds vs S->(dK ds vs).length=(ds.flatMap fun d=>slL (aS d)).length
 |[],vs,S,h=>by simp only[bU]at h;simp[h.1,dK]
 | d::ds,vs,S,h=>by
   simp only[bU]at h;obtain⟨v,vs',S1,S2,rfl,h1,h2,rfl⟩:=h;have ih:=qB h2;cases d with
   | one l=>
     have:(Em [l] [v]).length=(slL [l]).length:=pE rfl;simp only[dK,Zd,YL,aS,this,ih]
   | agg ls=>
     obtain⟨us,rfl,h1⟩:=h1;have:=pE h1.length;simp only[dK,Zd,YL,aS,ih];omega
   |_=>exact h1.elim
theorem rV {fn:Func}{tmps:Array Value}{w':World}{vs':List Value}{ds':List DV}{S:List Nat}(k1:(fn.results.toList.mapM (s9 tmps)).run P w'=.ok vs' w')(k2:bU w' ds' vs' S):
 ∃ v,(results fn tmps).run P w'=.ok v w'/\hZ w' ds' v S:=by
 have hrun:(results fn tmps).run P w'=.ok (if h:vs'.toArray.size=1 then vs'.toArray[0]else .tuple vs'.toArray) w':=by
  rw[HT,Array.mapM_eq_mapM_toList (m:=Sem)];simp only[Sem.run_bind,Sem.run_map,k1,Result.andThen_ok,Sem.run_pure]
 refine⟨_,hrun,?_⟩;have hl:∀ {ds:List DV} {vs:List Value} {S:List Nat},bU w' ds vs S->vs.length=ds.length:=by
  intro ds
  induction ds with
  |nil=>intro vs S h;simp only[bU]at h;simp[h.1]
  |cons d ds ih=>intro vs S h;simp only[bU]at h;obtain⟨v,vs',S1,S2,rfl,_,h2,_⟩:=h;simp[ih h2]
 have hlen:=hl k2;cases ds' with
 | nil=>
   have:vs'=[]:=YK hlen;subst this;exact⟨[],by simp,k2⟩
 | cons d1 rest=>
   cases rest with
   | nil=>
     simp only[bU]at k2;obtain⟨v,vs'',S1,S2,rfl,q1,⟨rfl,rfl⟩,rfl⟩:=k2
     simpa[hZ]using q1
   | cons d2 rest=>
     have:¬ vs'.toArray.size=1:=by simp at hlen;simp;omega
     rw[dif_neg this];exact⟨vs',rfl,k2⟩
theorem Ph {Φ:Type}{F:Φ}:GV P (adD F):=by intro f mk h;cases h
theorem aat {Φ:Type}{F:Φ}:C0 P (noC F):=by intro f ds pre res h;cases h
end
end Go.V
namespace Go.V
abbrev PT :=FuncId->Option PK
abbrev NT :=FuncId->Option NK
abbrev OT :=FuncId->Option SB
def adF {Φ:Type}(_:Φ):OT:=fun _=>none
theorem Pj {P:Program}{Φ:Type}{F:Φ}:GY P (adF F):=by intro f mk h;cases h
def adE {Φ:Type}(_:Φ):NT:=fun _=>none
theorem Pi {P:Program}{Φ:Type}{F:Φ}:GW P (adE F):=by intro f mk h;cases h
def adG {Φ:Type}(_:Φ):PT:=fun _=>none
theorem Pm {P:Program}{Φ:Type}{F:Φ}:G3 P (adG F):=by intro f mk h;cases h
def IK (r:Nat):Nat->List H->List Hv
 |_,[]=>[]
 |j,.own l::hs=>⟨0,0,none,.own l⟩::IK r (j+1) hs
 |j,h::hs=>⟨0,0,some (r*1000+j),h⟩::IK r (j+1) hs
def gu:Nat->List DV->VS
 |_,[]=>[]
 |p,.mp hs::ds=>.reg p (.one (.pt p 0)):: .root p true (IK p 0 hs)::gu (p+1) ds
 |p,d::ds=>.reg p (tp d)::gu (p+1) ds
def mpL:Nat->List DV->List (Nat×List H)
 |_,[]=>[]
 |p,.mp hs::ds=>(p,hs)::mpL (p+1) ds
 |p,_::ds=>mpL (p+1) ds
def jv:Nat->List DV->List gP->Nat->Option gP
 |p,.mp _::ds,q::ps,r=>if r=p then some q else jv (p+1) ds ps r
 |_,.mp _::_,[],_=>none
 |p,_::ds,ps,r=>jv (p+1) ds ps r
 |_,[],_,_=>none
theorem Hj {r:Nat}:∀ {hs:List H} {j i:Nat} {h:Hv},(IK r j hs)[i]?=some h->∃ c,hs[i]?=some c/\h.ver=0/\h.iv=0/\h.c=c/\(∀ l,c=.own l->h.org=none)/\((∀ l,c≠ .own l)->h.org=some (r*1000+(j+i)))
 |[],j,i,h,e=>by simp[IK]at e
 | c::hs,j,i,h,e=>by
   cases i with
   | zero=>
     cases c with
     |own l=>simp[IK]at e;subst e;exact⟨_,rfl,rfl,rfl,rfl,fun _ _=>rfl,fun k=>absurd rfl (k l)⟩
     |ro l=>simp[IK]at e;subst e;exact⟨_,rfl,rfl,rfl,rfl,(fun _ k=>by cases k),fun _=>rfl⟩
     |gone=>simp[IK]at e;subst e;exact⟨_,rfl,rfl,rfl,rfl,(fun _ k=>by cases k),fun _=>rfl⟩
   | succ i=>
     have:(IK r (j+1) hs)[i]?=some h:=by cases c<;>simpa[IK]using e
     obtain⟨c',q1,q2,q3,q4,q5,q6⟩:=Hj this;exact⟨c',by simpa using q1,q2,q3,q4,q5,fun k=>by rw[q6 k];congr 2;omega⟩
theorem Aq {r:Nat}:∀ {hs:List H} {j:Nat},(IK r j hs).length=hs.length
 |[],_=>rfl
 |c::hs,j=>by cases c<;>simp[IK,Aq (hs:=hs)]
section
variable {P: Program} {T: yN} {w: World} {ok: Nat -> Prop}
theorem gZ.length:∀ {ds:List DV} {vs:List Value} {ps:List gP},gZ w ok ds vs ps->vs.length=ds.length
 |[],vs,ps,h=>by simp only[gZ]at h;simp[h.1]
 | d::ds,vs,ps,h=>by
   cases d with
   |mp hs=>obtain⟨p,ps',vs',rfl,rfl,_,h⟩:=h;simp[h.length]
   |one l=>obtain⟨v,vs',S,rfl,_,_,h⟩:=h;simp[gZ.length h]
   |agg l=>obtain⟨v,vs',S,rfl,_,_,h⟩:=h;simp[gZ.length h]
   |ptr l=>obtain⟨v,vs',S,rfl,_,_,h⟩:=h;simp[gZ.length h]
   |fn f l=>obtain⟨v,vs',S,rfl,_,_,h⟩:=h;simp[gZ.length h]
theorem MJ:∀ {ds:List DV} {ps:List gP} {p r:Nat} {q:gP},jv p ds ps r=some q->p<=r/\r<p+ds.length
 |[],ps,p,r,q,h=>by simp[jv]at h
 | d::ds,ps,p,r,q,h=>by
   have step:∀ ps,jv (p+1) ds ps r=some q->p<=r/\r<p+(d::ds).length:=fun ps h=>by
    have:=MJ h;simp;omega
   cases d with
   | mp hs=>
     cases ps with
     |nil=>simp[jv]at h
     | cons q' ps=>
       simp only[jv]at h;split at h
       ·simp;omega
       ·exact step _ h
   |_=>exact step ps h
theorem sW:∀ {ds:List DV} {vs:List Value} {ps:List gP} {p r:Nat} {q:gP},gZ w ok ds vs ps->(jv p ds ps r=some q↔∃ k:Nat,(mpL p ds)[k]?=some (r,q.hs)/\ps[k]?=some q)
 |[],vs,ps,p,r,q,ha=>by simp[jv,mpL]
 | d::ds,vs,ps,p,r,q,ha=>by
   have mge:∀ {ds:List DV} {p k:Nat} {x:Nat×List H},(mpL p ds)[k]?=some x->p<=x.1:=by
    intro ds
    induction ds with
    |nil=>intro p k x h;simp[mpL]at h
    | cons d ds ih=>
      intro p k x h;cases d with
      | mp hs=>
        simp only[mpL]at h;cases k with
        |zero=>simp at h;subst h;exact Ze _
        |succ k=>simp at h;have:=ih h;omega
      |_=>have:=ih (p:=p+1) h;omega
   cases d with
   | mp hs=>
     obtain⟨p0,ps',vs',rfl,rfl,e,ha⟩:=ha;have ih:=sW (p:=p+1) (r:=r) (q:=q) ha;simp only[jv,mpL]
     constructor
     ·intro h;split at h
      ·rename_i c;cases h;exact⟨0,by simp[c,e],by simp⟩
      ·obtain⟨k,h1,h2⟩:=ih.1 h;exact⟨k+1,by simpa using h1,by simpa using h2⟩
     ·rintro⟨k,h1,h2⟩;cases k with
      |zero=>simp at h1 h2;rw[VR h1.1.symm];rw[h2]
      | succ k=>
        simp at h1 h2;have:=mge h1;rw[VT (by simp only at this;omega)];exact ih.2 ⟨k,h1,h2⟩
   |one l=>obtain⟨v,vs',S,rfl,_,_,ha⟩:=ha;exact sW (p:=p+1) ha
   |agg l=>obtain⟨v,vs',S,rfl,_,_,ha⟩:=ha;exact sW (p:=p+1) ha
   |ptr l=>obtain⟨v,vs',S,rfl,_,_,ha⟩:=ha;exact sW (p:=p+1) ha
   |fn f l=>obtain⟨v,vs',S,rfl,_,_,ha⟩:=ha;exact sW (p:=p+1) ha
theorem sT:∀ {ds:List DV} {vs:List Value} {ps:List gP} (p:Nat),gZ w ok ds vs ps->
 (∀ r,get (gu p ds) (.meta_ r)=(jv p ds ps r).map fun q=>.m q.hs.length true)/\
 (∀ r j,get (gu p ds) (.leaf r j)=(jv p ds ps r).bind fun q=>((IK r 0 q.hs)[j]?).map .h)/\
 (∀ d x,get (gu p ds) (.reg d)=some x->∃ i,d=p+i/\i<vs.length/\((∃ q,jv p ds ps d=some q/\x=.r (.one (.pt d 0))/\vs[i]?=some (.pointer (some ⟨q.b,q.off,none⟩)))\/(∃ dv v S,x=.r (tp dv)/\vs[i]?=some v/\qt w dv v S/\∀ b∈S,ok b)))
 | [],vs,ps,p,ha=>by
   refine⟨fun r=>rfl,fun r j=>rfl,fun d x h=>by cases h⟩
 | d::ds,vs,ps,p,ha=>by
   have other:∀ (v:Value) (vs':List Value) (S:List Nat),vs=v::vs'->qt w d v S->(∀ b∈S,ok b)->gZ w ok ds vs' ps->(∀ r,jv p (d::ds) ps r=jv (p+1) ds ps r)->gu p (d::ds)=.reg p (tp d)::gu (p+1) ds->
    (∀ r,get (gu p (d::ds)) (.meta_ r)=(jv p (d::ds) ps r).map fun q=>.m q.hs.length true)/\
    (∀ r j,get (gu p (d::ds)) (.leaf r j)=(jv p (d::ds) ps r).bind fun q=>((IK r 0 q.hs)[j]?).map .h)/\
    (∀ d' x,get (gu p (d::ds)) (.reg d')=some x->∃ i,d'=p+i/\i<vs.length/\((∃ q,jv p (d::ds) ps d'=some q/\x=.r (.one (.pt d' 0))/\vs[i]?=some (.pointer (some ⟨q.b,q.off,none⟩)))\/(∃ dv v S,x=.r (tp dv)/\vs[i]?=some v/\qt w dv v S/\∀ b∈S,ok b))):=by
    intro v vs' S e h1 h2 h3 h4 h5;subst e;obtain⟨i1,i2,i3⟩:=sT (p+1) h3;rw[h5];refine⟨fun r=>by rw[h4, <-i1];simp[get,W.app],fun r j=>by rw[h4, <-i2];simp[get,W.app],fun d' x hx=>?_⟩;simp only[get,W.app]at hx;split at hx
    ·rename_i c;cases c;cases hx;exact⟨0,rfl,by simp,.inr ⟨d,v,S,rfl,rfl,h1,h2⟩⟩
    ·obtain⟨i,e1,e2,e3⟩:=i3 d' x hx;refine⟨i+1,by omega,by simpa using e2,?_⟩;rw[h4];rcases e3 with⟨q,k1,k2,k3⟩|⟨dv,v',S',k1,k2,k3,k4⟩;exact .inl ⟨q,k1,k2,by simpa using k3⟩;exact .inr ⟨dv,v',S',k1,by simpa using k2,k3,k4⟩
   cases d with
   | mp hs=>
     obtain⟨q,ps',vs',rfl,rfl,e,ha⟩:=ha;obtain⟨i1,i2,i3⟩:=sT (p+1) ha;subst e;have hp:jv (p+1) ds ps' p=none:=by
      cases h:jv (p+1) ds ps' p with
      |none=>rfl
      |some q=>have:=MJ h;omega
     refine⟨fun r=>?_,fun r j=>?_,fun d' x hx=>?_⟩
     ·simp only[gu,get,W.app,jv];by_cases c:r=p
      ·subst c;simp[Aq]
      ·simp[c,i1]
     ·simp only[gu,get,W.app,jv];by_cases c:r=p
      ·subst c;simp
      ·simp[c,i2]
     ·simp only[gu,get,W.app]at hx;split at hx
      ·rename_i c;cases c;cases hx;exact⟨0,rfl,by simp,.inl ⟨q,by simp[jv],rfl,rfl⟩⟩
      ·rename_i c;obtain⟨i,e1,e2,e3⟩:=i3 d' x hx;refine⟨i+1,by omega,by simpa using e2,?_⟩;have hne:d'≠p:=by omega
       rcases e3 with⟨q',k1,k2,k3⟩|⟨dv,v',S',k1,k2,k3,k4⟩;exact .inl ⟨q',by simp only[jv];rw[VT hne];exact k1,k2,by simpa using k3⟩;exact .inr ⟨dv,v',S',k1,by simpa using k2,k3,k4⟩
   |one l=>obtain⟨v,vs',S,e,h1,h2,h3⟩:=ha;exact other v vs' S e h1 h2 h3 (fun _=>rfl) rfl
   |agg l=>obtain⟨v,vs',S,e,h1,h2,h3⟩:=ha;exact other v vs' S e h1 h2 h3 (fun _=>rfl) rfl
   |ptr l=>obtain⟨v,vs',S,e,h1,h2,h3⟩:=ha;exact other v vs' S e h1 h2 h3 (fun _=>rfl) rfl
   |fn f l=>obtain⟨v,vs',S,e,h1,h2,h3⟩:=ha;exact other v vs' S e h1 h2 h3 (fun _=>rfl) rfl
open Classical in
theorem JQ (n:Nat)(w:World)(ds:List DV)(vs:List Value)(ps:List gP)(h:SC w ds vs ps)(hn:ds.length<=n)(anc:Nat->Value)(hanc:∀ r q j l,jv 0 ds ps r=some q->q.hs[j]?=some (.ro l)->anc (r*1000+j)=q.val j):
 ∃ G,aQ ⟨n,w,fun b=>¬ nz ps b/\¬ sj ps b,anc,fun r=>(jv 0 ds ps r).map fun q=>(q.b,q.off),fun r=>((jv 0 ds ps r).map fun q=>q.hs.length).getD 0,fun _=>True⟩ G (get (gu 0 ds)) {tmps:=vs.toArray++Y7 (n-vs.toArray.size) undef,defers:=[]} w:=by
 have hl:=h.args.length;obtain⟨i1,i2,i3⟩:=sT 0 h.args;have ix:=fun {r q}=>sW (p:=0) (r:=r) (q:=q) h.args
 have mem:∀ {r q},jv 0 ds ps r=some q->q∈ps:=fun e=>by
  obtain⟨k,_,e2⟩:=ix.1 e;exact ZC e2
 have isO:∀ b,nz ps b->∃ x:Nat×Nat,∃ q l,jv 0 ds ps x.1=some q/\q.hs[x.2]?=some (.own l)/\b∈q.fp x.2:=by
  rintro b ⟨q,hq,j,l,h1,h2⟩;obtain⟨k,hk⟩:=YN hq;have hlen:∀ {ds:List DV} {vs:List Value} {ps:List gP} {p:Nat},gZ w (fun b=>¬ nz ps b/\¬ sj ps b) ds vs ps->True:=fun _=>trivial
  have key:∀ (ok:Nat->Prop) (ds:List DV) (vs:List Value) (ps:List gP) (p k:Nat) (q:gP),gZ w ok ds vs ps->ps[k]?=some q->∃ r,(mpL p ds)[k]?=some (r,q.hs):=by
   intro ok ds
   induction ds with
   |nil=>intro vs ps p k q h e;simp only[gZ]at h;rw[h.2]at e;simp at e
   | cons d ds ih=>
     intro vs ps p k q h e;cases d with
     | mp hs=>
       obtain⟨p0,ps',vs',rfl,rfl,e0,h⟩:=h;cases k with
       |zero=>simp at e;subst e;exact⟨p,by simp[mpL,e0]⟩
       |succ k=>simp at e;obtain⟨r,hr⟩:=ih vs' ps' (p+1) k q h e;exact⟨r,by simpa[mpL]using hr⟩
     |one l=>obtain⟨v,vs',S,rfl,_,_,h⟩:=h;exact ih vs' ps (p+1) k q h e
     |agg l=>obtain⟨v,vs',S,rfl,_,_,h⟩:=h;exact ih vs' ps (p+1) k q h e
     |ptr l=>obtain⟨v,vs',S,rfl,_,_,h⟩:=h;exact ih vs' ps (p+1) k q h e
     |fn f l=>obtain⟨v,vs',S,rfl,_,_,h⟩:=h;exact ih vs' ps (p+1) k q h e
  obtain⟨r,hr⟩:=key _ ds vs ps 0 k q h.args hk;exact⟨(r,j),q,l,ix.2 ⟨k,hr,hk⟩,h1,h2⟩
 let G:Gh:={
  loc:=fun r=>(jv 0 ds ps r).map fun q=>(q.b,q.off)
  val:=fun r j=>((jv 0 ds ps r).map fun q=>q.val j).getD undef
  fp:=fun r j=>((jv 0 ds ps r).map fun q=>q.fp j).getD []
  ow:=fun b=>if ho:nz ps b then some (.leaf (isO b ho).choose.1 (isO b ho).choose.2)else if sj ps b then some (.box b)else if b<w.heap.size then some .ro else none
  lead:=fun r=>((jv 0 ds ps r).map fun q=>q.b).getD 0}
 have ixne:∀ {r r' q q'},jv 0 ds ps r=some q->jv 0 ds ps r'=some q'->r≠r'->∃ k k':Nat,k≠k'/\ps[k]?=some q/\ps[k']?=some q':=by
  intro r r' q q' e1 e2 hne;obtain⟨k,a1,a2⟩:=ix.1 e1;obtain⟨k',b1,b2⟩:=ix.1 e2;refine⟨k,k',fun e=>?_,a2,b2⟩;subst e;have h:=a1.symm.trans b1;simp at h;exact hne h.1
 have owO:∀ r j q l,jv 0 ds ps r=some q->q.hs[j]?=some (.own l)->∀ b∈q.fp j,G.ow b=some (.leaf r j):=by
  intro r j q l e1 e2 b hb;have ho:nz ps b:=⟨q,mem e1,j,l,e2,hb⟩;simp only[G,dif_pos ho];obtain⟨q',l',f1,f2,f3⟩:=(isO b ho).choose_spec;generalize(isO b ho).choose=x at*;by_cases c:x.1=r
  ·rw[c,e1]at f1;cases f1;by_cases cj:x.2=j
   ·rw[c,cj]
   ·obtain⟨k,_,hk⟩:=ix.1 e1;exact absurd hb (h.disj k _ k j q q l' l hk hk f2 e2 (fun e=>cj (by cases e;rfl)) b f3)
  ·obtain⟨k,k',hne,hk,hk'⟩:=ixne f1 e1 c;exact absurd hb (h.disj k _ k' j q' q l' l hk hk' f2 e2 (fun e=>hne (by cases e;rfl)) b f3)
 have owP:∀ b,sj ps b->G.ow b=some (.box b):=by
  intro b hb;simp only[G,dif_neg (h.box b hb),VR hb]
 have owR:∀ b,b<w.heap.size->¬ nz ps b/\¬ sj ps b->G.ow b=some .ro:=by
  intro b hb ⟨h1,h2⟩;simp only[G,dif_neg h1,VT h2,VR hb]
 have cellq:∀ {r q},jv 0 ds ps r=some q->∃ cur ty,w.heap[q.b]?=some (.cells cur ty (0,0))/\q.off+q.hs.length<=cur.size/\∀ j,j<q.hs.length->cur[q.off+j]?=some (q.val j):=fun e=>h.cell _ (mem e)
 refine⟨G,rfl,by simp;omega,?_,?_,?_,?_,?_,?_,Same.refl _ _,?_,?_,?_,?_,?_,?_,fun _ _=>trivial⟩
 ·intro d x hx;obtain⟨i,rfl,e2,e3⟩:=i3 d x hx;have hv:∀ v,vs[i]?=some v->(vs.toArray++Y7 (n-vs.toArray.size) undef).getD (0+i) undef=v:=by
   intro v hv;simp only[Yx,Zv];rw[Ws (by simpa using e2)];simp[hv]
  refine⟨by show 0+i<n;omega,?_⟩;rcases e3 with⟨q,k1,k2,k3⟩|⟨dv,v,S,k1,k2,k3,k4⟩
  ·refine⟨_,k2,?_⟩;simp only[da,j7];exact⟨q.b,q.off,by simp only[G,k1,Yk],hv _ k3⟩
  ·refine⟨_,k1,?_⟩;simp only;rw[hv _ k2];have tok:∀ b∈S,b<w.heap.size->G.ow b=some .ro:=fun b hb hlt=>owR b hlt (k4 b hb)
   cases dv with
   | one l=>
     simp only[tp,da];have:=vR (γ:=gl (get (gu 0 ds))) (G:=G) [l] [v] S (by simp only[ap];exact⟨v,[],S,[],rfl,k3,⟨rfl,rfl⟩,by simp⟩) (fun b hb=>tok b hb (bQ.lt _ _ _ k3 b hb));simp only[ZX,List.map_nil,bY]at this;obtain⟨v',vs'',e,h3,_⟩:=this;cases e;exact h3
   | agg lls=>
     obtain⟨us,e,h1⟩:=k3;simp only[tp,da];exact⟨us,e,vR _ _ S h1 (fun b hb=>tok b hb (ap.lt _ _ _ h1 b hb))⟩
   | ptr rec=>
     obtain⟨b,off,cur,ty,fz,S',e1,e2,e3,e4,rfl⟩:=k3;simp only[tp,da];exact⟨b,off,cur,ty,fz,S',e1,e2,tok b (by simp) (ZF.1 e2).1,e3,e4,fun c hc=>tok c (by simp[hc]) (ap.lt _ _ _ e4 c hc)⟩
   | fn f caps=>
     obtain⟨us,e,h1⟩:=k3;simp only[tp,da];refine⟨us,e,?_⟩;have key:∀ (caps:af) (us:List Value) (S':List Nat),lK w caps us S'->(∀ b∈S',b∈S)->fv G w (caps.map fun rec=>.rp rec 0) us:=by
      intro caps
      induction caps with
      |nil=>intro us S' h _;simp only[lK]at h;simp[fv,h.1]
      | cons r rs ih=>
        intro us S' h hsub;simp only[lK]at h;obtain⟨v,vs',S1,S2,rfl,q1,q2,rfl⟩:=h;obtain⟨b,off,cur,ty,fz,S3,e1,e2,e3,e4,rfl⟩:=q1;exact⟨v,vs',rfl,⟨b,off,cur,ty,fz,S3,e1,e2,tok b (hsub b (by simp)) (ZF.1 e2).1,e3,e4,fun c hc=>tok c (hsub c (by simp[hc])) (ap.lt _ _ _ e4 c hc)⟩,ih _ _ q2 (fun b hb=>hsub b (by simp[hb]))⟩
     exact key caps us S h1 (fun b hb=>hb)
   |mp hs=>exact k3.elim
 ·intro r k hk;rw[i1]at hk;cases e:jv 0 ds ps r with
  |none=>simp[e]at hk
  | some q=>
    simp[e]at hk;subst hk;obtain⟨cur,ty,f1,f2,f3⟩:=cellq e;refine⟨q.b,q.off,cur,ty,by simp[G,e],?_,f1,f2,fun j hj=>by simp[G,e,f3 j hj]⟩;rw[owP q.b ⟨q,mem e,rfl⟩];simp[G,e]
 ·intro r j x hx;rw[i2]at hx;cases e:jv 0 ds ps r with
  |none=>simp[e]at hx
  | some q=>
    simp only[e,YI,ZD]at hx;obtain⟨hv,e1,rfl⟩:=hx;obtain⟨c,k1,k2,k3,k4,k5,k6⟩:=Hj e1;refine⟨hv,q.hs.length,true,rfl,by rw[i1,e];rfl,(ZG.1 k1).1,?_⟩;unfold ff;rw[k4];cases c with
    | own l=>
      obtain⟨m1,m2,m3⟩:=h.own q (mem e) j l k1;simp only[G,e,Yk,Z9];exact⟨m1,m2,fun b hb=>⟨owO r j q l e k1 b hb,m3 b hb⟩⟩
    | ro l=>
      obtain⟨m1,m2⟩:=h.ro q (mem e) j l k1;simp only[G,e,Yk,Z9];exact⟨q.fp j,m1,fun b hb=>owR b (bQ.lt _ _ _ m1 b hb) (m2 b hb)⟩
    |gone=>exact absurd k1 (h.gone q (mem e) j)
 ·intro r x hx;rw[i1]at hx;cases e:jv 0 ds ps r with
  |none=>simp[e]at hx
  |some q=>simp[e]at hx;exact⟨_,_,hx.symm⟩
 ·intro r b hb;cases e:jv 0 ds ps r with
  |none=>simp[G,e]at hb
  |some q=>exact⟨q.hs.length,by rw[i1,e];rfl⟩
 ·intro b t hb;simp only[G]at hb;split at hb
  ·rename_i ho;obtain⟨q,hq,j,l,e1,e2⟩:=ho;exact bQ.lt _ _ _ (h.own q hq j l e1).1 b e2
  ·split at hb
   ·rename_i hp;obtain⟨q,hq,rfl⟩:=hp;obtain⟨cur,ty,f1,_⟩:=h.cell q hq;exact(ZF.1 f1).1
   ·split at hb
    ·rename_i c;exact c
    ·cases hb
 ·intro b hb hf;exact .inr (owR b hb hf)
 ·intro r j hv e i hi hl;rw[aO,i2]at e;cases e0:jv 0 ds ps r with
  |none=>simp[e0]at e
  | some q=>
    simp only[e0,YI,ZD]at e;obtain⟨hv',e1,e2⟩:=e;cases e2;obtain⟨c,k1,k2,k3,k4,k5,k6⟩:=Hj e1;obtain⟨l,hl⟩:=hl;rw[k4]at hl;cases c with
    |own l'=>rw[k5 l' rfl]at hi;cases hi
    | ro l'=>
      rw[k6 (by simp)]at hi;cases hi;rw[Zv];show _=anc _;rw[hanc r q j l' e0 k1];simp[G,e0]
    |gone=>rcases hl with e|e<;>cases e
 ·intro r x hx;cases e:jv 0 ds ps r with
  |none=>simp[e]at hx
  |some q=>exact⟨hx,by rw[i1,e];simp[e]⟩
 ·intro r b off hx;cases e:jv 0 ds ps r with
  |none=>simp[e]at hx
  | some q=>
    simp[e]at hx;obtain⟨rfl,rfl⟩:=hx;obtain⟨cur,ty,f1,f2,f3⟩:=cellq e;exact⟨cur,cur,ty,f1,f1,rfl,fun _ _=>rfl⟩
 ·intro r1 r2 k1 k2 b o1 o2 hne h1 h2 q1 q2;rw[i1]at h1 h2;cases e1:jv 0 ds ps r1 with
  |none=>simp[e1]at h1
  | some a1=>
    cases e2:jv 0 ds ps r2 with
    |none=>simp[e2]at h2
    | some a2=>
      simp[e1]at h1;simp[e2]at h2;simp[G,e1]at q1;simp[G,e2]at q2;obtain⟨rfl,rfl⟩:=q1;obtain⟨q2,rfl⟩:=q2;obtain⟨k,k',hk,m1,m2⟩:=ixne e1 e2 hne;have:=h.sep k k' a1 a2 hk m1 m2 q2.symm;omega
 ·intro r b off hx ha;cases e:jv 0 ds ps r with
  |none=>simp[G,e]at hx
  |some q=>simp[e]at ha
end
end Go.V
namespace Go.V
def CK {α:Type}(pr:(Unit->Prop)->Prop)(r:Nat):Nat->List H->(List H->Rd α)->Rd α
 |_,[],k=>k []
 | j,h0::hs,k=>jx r j fun h=>match h.c with
   | .own l=>CK pr r (j+1) hs fun cs=>k (.own l::cs)
   | .ro l=>match h0 with
     | .ro l0=>match h.org with
       |some i=>if Z1 i (r*1000+j)then .req (pr fun _=>l=l0) (CK pr r (j+1) hs fun cs=>k (.ro l0::cs))else .fail
       |none=>.fail
     |_=>.fail
   | .gone=>.fail
def ME {α:Type}(pr:(Unit->Prop)->Prop)(os:Nat->List H):List (Nat×List H)->Nat->Rd α->Rd α
 |[],_,k=>k
 |(r,hs)::m,i,k=>CK pr r 0 hs fun cs=>.req (pr fun _=>cs=os i) (ME pr os m (i+1) k)
def JA (T:yN)(O:GZ)(ts:List TypeId)(rvs:List ResultVar)(m:List (Nat×List H))(σ:VS)(res:List DV)(os:Nat->List H):Prop:=
 (AS T O ts rvs fun ds srcs=>if bp srcs&&srcs.all (fun s=>m.all fun q=> !(s.1.beq q.1))then .req (O.pr fun _=>ds=res) (ME O.pr os m 0 (.ret ()))else .fail).wpU (get σ) [] fun _ _=>True
def Tg (T:yN)(O:GZ)(ts:List TypeId)(rvs:List ResultVar)(m:List (Nat×List H))(res:List DV)(os:Nat->List H):Ex->VS->Prop
 | .normal,σ=>JA T O ts rvs m σ res os
 | .ret,σ=>JA T O ts rvs m σ res os
 | .exit _,_=>False
section
variable {P: Program} {T: yN} {cx: Cx} {G: Gh} {g: Gm} {a: Act} {w: World}
theorem S8 (hT:bK P T){Φ:Type}{F0:Φ}{ctF:Φ->CT}{mtF:Φ->MT}{ptF:Φ->PT}{ntF:Φ->NT}{otF:Φ->OT}(hct:C0 P (ctF F0))(hmt:GV P (mtF F0))(hpt:G3 P (ptF F0))(hnw:GW P (ntF F0))(hot:GY P (otF F0))(hm:P.follows .mixedOrders=true){f:FuncId}{fn:Func}{ds res:List DV}(n:Nat)(c:Code)(ts:List TypeId)(rvs:List ResultVar) 
 (hf:P.funcs[f]?=some fn) (hb:fn.body=some c) (hnt:fn.ntmps=n) (hts:fn.resultTypes.toList=ts) (hrv:fn.results.toList=rvs) (hn:YH ds.length n=true)
 (h:∀ O r F,O=ai->r=res->F=F0->qn T O ⟨ctF F,mtF F,ptF F,ntF F,otF F⟩ n [] c (OJ T O ts rvs r) (lz 0 ds)):Ku P f ds res:=by
 subst hnt hts hrv;replace h:=h ai res F0 rfl rfl rfl;replace hn:=Y8 hn;intro w vs hargs;refine calls_of_wp hf hb ?_;refine YO ?_ (dH (cx:=⟨fn.ntmps,w,fun _=>True,fun _=>undef,fun _=>none,fun _=>0,fun _=>True⟩) hT (ct:=⟨ctF F0,mtF F0,ptF F0,ntF F0,otF F0⟩) ⟨hct,hmt,hpt,hnw,hot⟩ hm rfl (an:=[]) (fun r x e=>by cases e) c _ _ _ w h (FC fn.ntmps w ds vs hargs hn));rintro e a' w' ⟨ex,σ',rfl,hq',G,hS⟩;have hq:CY T ai fn.resultTypes.toList fn.results.toList σ' res:=by
  cases ex with
  |normal=>exact hq'
  |ret=>exact hq'
  |exit i=>exact hq'.elim
 have hex:ex=.normal\/ex=.ret:=by
  cases ex with
  |normal=>exact .inl rfl
  |ret=>exact .inr rfl
  |exit i=>exact hq'.elim
 unfold CY at hq;obtain⟨ls,u,t,h1,_⟩:=Rd.wpU_runs hq;obtain⟨ds',vs',srcs,S,ls',k1,k2,k3,k4,k5⟩:=kh hS _ _ _ _ _ (mP hT (fun _ _ _ h=>h) h1);split at k5
 case isFalse=>exact k5.elim
 rename_i hd;simp only[Rd.Runs]at k5;have hres0:ds'=res:=k5.1;subst hres0;obtain⟨v,hrun,hres⟩:=rV k1 k2;have hfresh:∀ b∈S,w.heap.size<=b/\ft w' b:=by
  intro b hb;obtain⟨u,r,j,m1,m2⟩:=k4 b hb;refine⟨?_,u⟩;rcases Z3 b w.heap.size with hlt|hge
  ·rcases hS.frow b hlt trivial with e|e<;>rw[m2]at e<;>cases e
  ·exact hge
 have fin:a'.defers=[]/\∃ v,(results fn a'.tmps).run P w'=.ok v w'/\∃ v' S,X2 v=.returned v'/\hZ w' ds' v' S/\S.Nodup/\(∀ b∈S,w.heap.size<=b/\ft w' b)/\Same (fun _=>True) w w':=
  ⟨hS.defers,_,hrun,_,S,rfl,hres,k3 hd,hfresh,hS.frame⟩
 rcases hex with rfl|rfl;exact fin;exact fin
theorem Pe (hT:bK P T){Φ:Type}{F0:Φ}{ctF:Φ->CT}{mtF:Φ->MT}{ptF:Φ->PT}{ntF:Φ->NT}{otF:Φ->OT}(hct:C0 P (ctF F0))(hmt:GV P (mtF F0))(hpt:G3 P (ptF F0))(hnw:GW P (ntF F0))(hot:GY P (otF F0))(hm:P.follows .mixedOrders=true){f:FuncId}{fn:Func}{ds res:List DV}{outs:ay}(n:Nat)(c:Code)(ts:List TypeId)(rvs:List ResultVar)(locs:List (Nat×Nat)) 
 (hf:P.funcs[f]?=some fn) (hb:fn.body=some c) (hnt:fn.ntmps=n) (hts:fn.resultTypes.toList=ts) (hrv:fn.results.toList=rvs) (hn:YH ds.length n=true) (hlo:(ds.flatMap fun d=>slL (aS d)).length=outs.length) (hlo2:locs.length=outs.length)
 (h:∀ O r os F,O=ai->r=res->os=(fun i=>outs.getD i .g)->F=F0->qn T O ⟨ctF F,mtF F,ptF F,ntF F,otF F⟩ n [] c (acb T O ts rvs locs r os) (IL O ds)):E5 P f ds outs res:=by
 subst hnt hts hrv;replace h:=h ai res _ F0 rfl rfl rfl rfl;replace hn:=Y8 hn;intro w vs S hr hnd hunf;refine calls_of_wp hf hb ?_;refine YO ?_ (dH (cx:=⟨fn.ntmps,w,fun b=>b∉S,fun i=>(dK ds vs).getD i undef,fun _=>none,fun _=>0,fun _=>True⟩) hT (ct:=⟨ctF F0,mtF F0,ptF F0,ntF F0,otF F0⟩) ⟨hct,hmt,hpt,hnw,hot⟩ hm rfl (an:=[]) (fun r x e=>by cases e) c _ _ _ w h (JP fn.ntmps w ds vs S hr hnd hunf hn));rintro e a' w' ⟨ex,σ',rfl,hq',G,hS⟩;have hq:Jz T ai fn.resultTypes.toList fn.results.toList locs σ' res (fun i=>outs.getD i .g):=by
  cases ex with
  |normal=>exact hq'
  |ret=>exact hq'
  |exit i=>exact hq'.elim
 have hex:ex=.normal\/ex=.ret:=by
  cases ex with
  |normal=>exact .inl rfl
  |ret=>exact .inr rfl
  |exit i=>exact hq'.elim
 unfold Jz at hq;obtain⟨ls,u,t,h1,_⟩:=Rd.wpU_runs hq;obtain⟨ds',vs',srcs,Sr,ls',k1,k2,k3,k4,k5⟩:=kh hS _ _ _ _ _ (mP hT (fun _ _ _ h=>h) h1);split at k5
 case isFalse=>exact k5.elim
 rename_i hd;obtain⟨hres0,k5⟩:=k5;have hres0:ds'=res:=hres0;subst hres0;obtain⟨d1,d2,d3⟩:=cW hd;obtain⟨o1,o2⟩:=wK hS locs 0 _ _ k5;rw[hlo2]at o2;have houts:(Y5 0 outs.length).map (fun i=>outs.getD i .g)=outs:=by
  apply ZN;intro i;rw[ZE];by_cases c:i<outs.length
  ·rw[Vt c];simp[ZA,c]
  ·rw[ZY (by simp;omega),ZY (by omega)];rfl
 rw[houts]at o2;obtain⟨f1,f2⟩:=wB hS d2 o1;have hanc:(Y5 0 outs.length).map (fun i=>(dK ds vs).getD i undef)=dK ds vs:=by
  have hl:=qB hr;rw[hlo]at hl;rw[<-hl];apply ZN;intro i;rw[ZE];by_cases c:i<(dK ds vs).length
  ·rw[Vt c];simp[ZA,c]
  ·rw[ZY (by simp;omega),ZY (by omega)];rfl
 have o2:ap w' outs (dK ds vs) (oN G locs):=by rw[<-hanc];exact o2
 obtain⟨v,hrun,hres⟩:=rV k1 k2;have tokL:∀ b∈oN G locs,ft w' b/\∃ r j,(r,j)∈locs/\G.ow b=some (.leaf r j):=by
  intro b hb;obtain⟨p,hp,hbp⟩:=Cw hb;obtain⟨h,sz,es,e1,e2⟩:=o1 p hp;have:=hS.hok (aO.2 e1);simp only[ff,e2]at this;exact⟨(this.2.2 b hbp).2,p.1,p.2,hp,(this.2.2 b hbp).1⟩
 have own:∀ b r j,ft w' b->G.ow b=some (.leaf r j)->ft w' b/\(w.heap.size<=b\/b∈S):=by
  intro b r j hu ht;refine⟨hu,?_⟩;rcases Z3 b w.heap.size with hlt|hge
  ·by_cases c:b∈S;exact .inr c
   ·rcases hS.frow b hlt c with e|e<;>rw[ht]at e<;>cases e
  ·exact .inl hge
 have fin:a'.defers=[]/\∃ v,(results fn a'.tmps).run P w'=.ok v w'/\∃ v' Sr S',X2 v=.returned v'/\hZ w' ds' v' Sr/\ap w' outs (dK ds vs) S'/\(Sr++S').Nodup/\(∀ b∈Sr++S',ft w' b/\(w.heap.size<=b\/b∈S))/\Same (fun b=>b∉S) w w':=by
  refine⟨hS.defers,_,hrun,_,Sr,oN G locs,rfl,hres,o2,?_,?_,hS.frame⟩
  ·refine Zw.2 ⟨k3 d1,f1,fun x hx y hy e=>?_⟩;subst e;obtain⟨_,r,j,m1,m2⟩:=k4 x hx;obtain⟨_,r',j',m3,m4⟩:=tokL x hy;rw[m2]at m4;cases m4;exact d3 _ m1 m3
  ·intro b hb;rcases Zg.1 hb with q|q
   ·obtain⟨hu,r,j,_,m2⟩:=k4 b q;exact own b r j hu m2
   ·obtain⟨hu,r,j,_,m2⟩:=tokL b q;exact own b r j hu m2
 rcases hex with rfl|rfl;exact fin;exact fin
theorem ri {α:Type}{r:Nat}:∀ (hs:List H) (j:Nat) (k:List H->Rd α) (ls:List Loc) (out:α),(CK ou r j hs k).Runs g ls out->
 ∃ cs ls',(k cs).Runs g ls' out/\cs.length=hs.length/\∀ (i:Nat) c,cs[i]?=some c->∃ hv,g (.leaf r (j+i))=some (.h hv)/\hv.c=c/\(match c with
  | .own _=>True
  | .ro l=>hs[i]?=some (.ro l)/\hv.org=some (r*1000+(j+i))
  | .gone=>False)
 |[],j,k,ls,out,h=>⟨[],ls,h,rfl,fun i c e=>by simp at e⟩
 | h0::hs,j,k,ls,out,h=>by
   obtain⟨hv,ls2,_,q2,hk⟩:=bE (k:=fun hh=>match hh.c with
    | .own l=>CK ou r (j+1) hs fun cs=>k (.own l::cs)
    | .ro l=>match(generalizing:=false) h0 with
      | .ro l0=>match hh.org with
        |some i=>if Z1 i (r*1000+j)then .req (ou fun _=>l=l0) (CK ou r (j+1) hs fun cs=>k (.ro l0::cs))else .fail
        |none=>.fail
      |_=>.fail
    | .gone=>.fail) h
   cases hc:hv.c with
   |gone=>simp[hc,Rd.Runs]at hk
   | own l=>
     simp only[hc]at hk;obtain⟨cs,ls3,e1,e2,e3⟩:=ri hs (j+1) _ _ _ hk;refine⟨_,ls3,e1,by simp[e2],fun i c e=>?_⟩;cases i with
     |zero=>simp at e;subst e;exact⟨hv,q2,hc,trivial⟩
     | succ i=>
       simp at e;obtain⟨hv',k1,k2,k3⟩:=e3 i c e;refine⟨hv',by rw[show j+(i+1)=j+1+i from by omega];exact k1,k2,?_⟩;cases c with
       |own l=>trivial
       |ro l=>exact⟨by simpa using k3.1,by rw[show j+(i+1)=j+1+i from by omega];exact k3.2⟩
       |gone=>exact k3
   | ro l=>
     simp only[hc]at hk;cases h0 with
     |own l0=>exact hk.elim
     |gone=>exact hk.elim
     | ro l0=>
       simp only at hk;cases ho:hv.org with
       |none=>simp[ho,Rd.Runs]at hk
       | some i0=>
         simp only[ho]at hk;split at hk
         ·rename_i hb;have hi:=Ys hb;obtain⟨hl,hk⟩:=hk;have hl:l=l0:=hl;subst hl hi;obtain⟨cs,ls3,e1,e2,e3⟩:=ri hs (j+1) _ _ _ hk;refine⟨_,ls3,e1,by simp[e2],fun i c e=>?_⟩;cases i with
          |zero=>simp at e;subst e;exact⟨hv,q2,hc,by simp,ho⟩
          | succ i=>
            simp at e;obtain⟨hv',k1,k2,k3⟩:=e3 i c e;refine⟨hv',by rw[show j+(i+1)=j+1+i from by omega];exact k1,k2,?_⟩;cases c with
            |own l=>trivial
            |ro l=>exact⟨by simpa using k3.1,by rw[show j+(i+1)=j+1+i from by omega];exact k3.2⟩
            |gone=>exact k3
         ·exact hk.elim
theorem wJ {α:Type}{os:Nat->List H}:∀ (m:List (Nat×List H)) (i:Nat) (k:Rd α) (ls:List Loc) (out:α),(ME ou os m i k).Runs g ls out->
 ∀ (n r:Nat) hs,m[n]?=some (r,hs)->(os (i+n)).length=hs.length/\∀ (j:Nat) c,(os (i+n))[j]?=some c->∃ hv,g (.leaf r j)=some (.h hv)/\hv.c=c/\(match c with
  | .own _=>True
  | .ro l=>hs[j]?=some (.ro l)/\hv.org=some (r*1000+j)
  | .gone=>False)
 |[],i,k,ls,out,h=>fun n r hs e=>by simp at e
 | (r0,hs0)::m,i,k,ls,out,h=>by
  obtain⟨cs,ls2,h1,h2,h3⟩:=ri _ _ _ _ _ h;obtain⟨he,h1⟩:=h1;have he:cs=os i:=he;intro n r hs e;cases n with
  | zero=>
    simp at e;obtain⟨rfl,rfl⟩:=e;rw[Zi, <-he];refine⟨h2,fun j c hc=>?_⟩;have:=h3 j c hc
    simpa using this
  | succ n=>
    simp at e;have:=wJ m (i+1) k _ _ h1 n r hs e;rw[show i+(n+1)=i+1+n from by omega];exact this
theorem rh {w:World}{ok:Nat->Prop}:∀ {ds:List DV} {vs:List Value} {ps:List gP} {p k:Nat} {q:gP},gZ w ok ds vs ps->ps[k]?=some q->∃ r,(mpL p ds)[k]?=some (r,q.hs)
 |[],vs,ps,p,k,q,h,e=>by simp only[gZ]at h;rw[h.2]at e;simp at e
 | d::ds,vs,ps,p,k,q,h,e=>by
   cases d with
   | mp hs=>
     obtain⟨p0,ps',vs',rfl,rfl,e0,h⟩:=h;cases k with
     |zero=>simp at e;subst e;exact⟨p,by simp[mpL,e0]⟩
     |succ k=>simp at e;obtain⟨r,hr⟩:=rh (p:=p+1) h e;exact⟨r,by simpa[mpL]using hr⟩
   |one l=>obtain⟨v,vs',S,rfl,_,_,h⟩:=h;exact rh (p:=p+1) h e
   |agg l=>obtain⟨v,vs',S,rfl,_,_,h⟩:=h;exact rh (p:=p+1) h e
   |ptr l=>obtain⟨v,vs',S,rfl,_,_,h⟩:=h;exact rh (p:=p+1) h e
   |fn f l=>obtain⟨v,vs',S,rfl,_,_,h⟩:=h;exact rh (p:=p+1) h e
open Classical in
theorem Je (hT:bK P T){Φ:Type}{F0:Φ}{ctF:Φ->CT}{mtF:Φ->MT}{ptF:Φ->PT}{ntF:Φ->NT}{otF:Φ->OT}(hct:C0 P (ctF F0))(hmt:GV P (mtF F0))(hpt:G3 P (ptF F0))(hnw:GW P (ntF F0))(hot:GY P (otF F0))(hm:P.follows .mixedOrders=true){f:FuncId}{fn:Func}{ds res:List DV}{outs:List (List H)}(n:Nat)(c:Code)(ts:List TypeId)(rvs:List ResultVar) 
 (hf:P.funcs[f]?=some fn) (hb:fn.body=some c) (hnt:fn.ntmps=n) (hts:fn.resultTypes.toList=ts) (hrv:fn.results.toList=rvs) (hn:YH ds.length n=true) (hlo:(mpL 0 ds).length=outs.length) (hl0:(mpL 0 ds).all (fun q=>q.2.length.ble 999)=true)
 (h:∀ O r os F,O=ai->r=res->os=(fun i=>outs.getD i [])->F=F0->qn T O ⟨ctF F,mtF F,ptF F,ntF F,otF F⟩ n ((mpL 0 ds).map (·.1)) c (Tg T O ts rvs (mpL 0 ds) r os) (gu 0 ds)):De P f ds outs res:=by
 subst hnt hts hrv;replace h:=h ai res _ F0 rfl rfl rfl rfl;replace hn:=Y8 hn;intro w vs ps hpre;have ix:=fun {r q}=>sW (p:=0) (r:=r) (q:=q) hpre.args
 have hlt:∀ {r q},jv 0 ds ps r=some q->q.hs.length<=999:=by
  intro r q e;obtain⟨k,e1,_⟩:=ix.1 e;have:=Yt.1 hl0 _ (ZC e1);exact Y8 this
 let anc:Nat->Value:=fun i=>((jv 0 ds ps (i/1000)).map fun q=>q.val (i%1000)).getD undef
 have hanc:∀ r q j l,jv 0 ds ps r=some q->q.hs[j]?=some (.ro l)->anc (r*1000+j)=q.val j:=by
  intro r q j l e e1;have h1:=(ZG.1 e1).1;have h2:=hlt e;have h3:(r*1000+j)/1000=r:=by omega
  have h4:(r*1000+j)%1000=j:=by omega
  simp only[anc,h3,h4,e,Yk,Z9]
 refine calls_of_wp hf hb ?_;have hini:=JQ fn.ntmps w ds vs ps hpre hn anc hanc;refine YO ?_ (dH (cx:=⟨fn.ntmps,w,fun b=>¬ nz ps b/\¬ sj ps b,anc,fun r=>(jv 0 ds ps r).map fun(q:gP)=>(q.b,q.off),fun r=>((jv 0 ds ps r).map fun(q:gP)=>q.hs.length).getD 0,fun _=>True⟩) hT (ct:=⟨ctF F0,mtF F0,ptF F0,ntF F0,otF F0⟩) ⟨hct,hmt,hpt,hnw,hot⟩ hm rfl (an:=(mpL 0 ds).map (·.1)) (fun r x e=>by
  cases e0:jv 0 ds ps r with
  |none=>simp[e0]at e
  |some q=>obtain⟨k,e1,_⟩:=ix.1 e0;exact ZQ.2 ⟨_,ZC e1,rfl⟩) c _ _ _ w h hini)
 rintro e a' w' ⟨ex,σ',rfl,hq',G,hS⟩;have hq:JA T ai fn.resultTypes.toList fn.results.toList (mpL 0 ds) σ' res (fun i=>outs.getD i []):=by
  cases ex with
  |normal=>exact hq'
  |ret=>exact hq'
  |exit i=>exact hq'.elim
 have hex:ex=.normal\/ex=.ret:=by
  cases ex with
  |normal=>exact .inl rfl
  |ret=>exact .inr rfl
  |exit i=>exact hq'.elim
 unfold JA at hq;obtain⟨ls,u,t,h1,_⟩:=Rd.wpU_runs hq;obtain⟨ds',vs',srcs,Sr,ls',k1,k2,k3,k4,k5⟩:=kh hS _ _ _ _ _ (mP hT (fun _ _ _ h=>h) h1);split at k5
 case isFalse=>exact k5.elim
 rename_i hd;simp only[Zc]at hd;obtain⟨OS,hd2⟩:=hd;obtain⟨hres0,k5⟩:=k5;have hres0:ds'=res:=hres0;subst hres0;have o1:=wJ _ _ _ _ _ k5;obtain⟨v,hrun,hres⟩:=rV k1 k2;have plen:ps.length=outs.length:=by
  rw[<-hlo];have key:∀ {ds:List DV} {vs:List Value} {ps:List gP} {p:Nat} {ok:Nat->Prop},gZ w ok ds vs ps->ps.length=(mpL p ds).length:=by
   intro ds
   induction ds with
   |nil=>intro vs ps p ok h;simp only[gZ]at h;simp[h.2,mpL]
   | cons d ds ih=>
     intro vs ps p ok h;cases d with
     |mp hs=>obtain⟨p0,ps',vs',rfl,rfl,_,h⟩:=h;simp[mpL,ih (p:=p+1) h]
     |one l=>obtain⟨v,vs',S,rfl,_,_,h⟩:=h;exact ih (p:=p+1) h
     |agg l=>obtain⟨v,vs',S,rfl,_,_,h⟩:=h;exact ih (p:=p+1) h
     |ptr l=>obtain⟨v,vs',S,rfl,_,_,h⟩:=h;exact ih (p:=p+1) h
     |fn f l=>obtain⟨v,vs',S,rfl,_,_,h⟩:=h;exact ih (p:=p+1) h
  exact key hpre.args
 let pst:Nat->gP:=fun k=>
  { b:=(ps.getD k ⟨0,0,[],fun _=>undef,fun _=>[]⟩).b,off:=(ps.getD k ⟨0,0,[],fun _=>undef,fun _=>[]⟩).off,hs:=outs.getD k [],
    val:=fun j=>G.val ((mpL 0 ds).getD k (0,[])).1 j,
    fp:=fun j=>match(outs.getD k [])[j]? with
     |some (.own _)=>G.fp ((mpL 0 ds).getD k (0,[])).1 j
     |_=>(ps.getD k ⟨0,0,[],fun _=>undef,fun _=>[]⟩).fp j}
 have info:∀ (k:Nat) q',((Zl ps.length).map pst)[k]?=some q'->∃ q r,ps[k]?=some q/\(mpL 0 ds)[k]?=some (r,q.hs)/\jv 0 ds ps r=some q/\q'=pst k/\q'.b=q.b/\q'.off=q.off/\outs[k]?=some q'.hs/\q'.hs.length=q.hs.length/\(∀ j,q'.val j=G.val r j)/\(∀ j l,q'.hs[j]?=some (.own l)->q'.fp j=G.fp r j)/\
  ∀ (j:Nat) c,q'.hs[j]?=some c->∃ hv,get σ' (.leaf r j)=some (.h hv)/\hv.c=c/\(match c with
   | .own _=>True
   | .ro l=>q.hs[j]?=some (.ro l)/\hv.org=some (r*1000+j)
   | .gone=>False):=by
  intro k q' e;rw[ZE,ZD]at e;obtain⟨k',e1,rfl⟩:=e;obtain⟨hk,rfl⟩:=ZG.1 e1;simp only[Xt]at hk;simp only[List.getElem_range];have hq:ps[k]?=some ps[k]:=Zu hk;obtain⟨r,hr⟩:=rh (p:=0) hpre.args hq;have hpa:jv 0 ds ps r=some ps[k]:=ix.2 ⟨k,hr,hq⟩;have hout:outs[k]?=some outs[k]:=Zu (by omega);have g1:ps.getD k ⟨0,0,[],fun _=>undef,fun _=>[]⟩=ps[k]:=by simp[ZA,hq]
  have g2:outs.getD k []=outs[k]:=by simp[ZA,hout]
  have g3:(mpL 0 ds).getD k (0,[])=(r,ps[k].hs):=by simp[ZA,hr]
  obtain⟨m1,m2⟩:=o1 k r _ hr;rw[Zv]at m1 m2;refine⟨ps[k],r,hq,hr,hpa,trivial,by simp only[pst,g1],by simp only[pst,g1],by simp only[pst,g2];exact hout,by simp only[pst];exact m1,fun j=>by simp only[pst,g3],fun j l e=>?_,fun j c e=>?_⟩
  ·simp only[pst]at e ⊢;rw[e];simp only[g3]
  ·exact m2 j c e
 have meta_:∀ {r q},jv 0 ds ps r=some q->G.loc r=some (q.b,q.off)/\get σ' (.meta_ r)=some (.m q.hs.length true):=by
  intro r q e;have:=hS.aloc r (q.b,q.off) (by simp[e])
  simpa[e]using this
 have mem:∀ q'∈(Zl ps.length).map pst,∃ k:Nat,((Zl ps.length).map pst)[k]?=some q':=fun q' hq=>by
  obtain⟨k,hk⟩:=YN hq;exact⟨k,hk⟩
 have ownTok:∀ b,nz ((Zl ps.length).map pst) b->∃ r j q,jv 0 ds ps r=some q/\G.ow b=some (.leaf r j)/\ft w' b:=by
  rintro b ⟨q',hq,j,l,e1,e2⟩;obtain⟨k,hk⟩:=mem q' hq;obtain⟨q,r,i1,i2,i3,i4,i5,i6,i7,i8,i9,i10,i11⟩:=info k q' hk;obtain⟨hv,m1,m2,_⟩:=i11 j _ e1;rw[i10 j l e1]at e2;have:=hS.hok (aO.2 m1);simp only[ff,m2]at this;exact⟨r,j,q,i3,this.2.2 b e2⟩
 have ptrTok:∀ b,sj ps b->∃ k,G.ow b=some (.box k):=by
  rintro b ⟨q,hq,rfl⟩;obtain⟨k,hk⟩:=YN hq;obtain⟨r,hr⟩:=rh (p:=0) hpre.args hk;obtain⟨f1,f2⟩:=meta_ (ix.2 ⟨k,hr,hk⟩);obtain⟨b',off',cur,ty,z1,z2,_⟩:=hS.boxes r _ f2;rw[f1]at z1;cases z1;exact⟨_,z2⟩
 have own:∀ b r j,ft w' b->G.ow b=some (.leaf r j)->ft w' b/\(w.heap.size<=b\/nz ps b):=by
  intro b r j hu ht;refine⟨hu,?_⟩;rcases Z3 b w.heap.size with hlt|hge
  ·by_cases c1:nz ps b;exact .inr c1
   ·by_cases c2:sj ps b
    ·obtain⟨k,hk⟩:=ptrTok b c2;rw[hk]at ht;cases ht
    ·rcases hS.frow b hlt ⟨c1,c2⟩with e|e<;>rw[ht]at e<;>cases e
  ·exact .inl hge
 have post:KF w ps outs w' ((Zl ps.length).map pst) Sr:=by
  refine⟨by simp,?_,?_,?_,?_,?_,?_,⟨k3 OS,?_⟩,?_,hS.frame,?_⟩
  ·intro k p p' hp hp';obtain⟨q,r,i1,i2,i3,i4,i5,i6,i7,i8,_⟩:=info k p' hp';rw[hp]at i1;cases i1;exact⟨i5,i6,i7,i8⟩
  ·intro q' hq;obtain⟨k,hk⟩:=mem q' hq;obtain⟨q,r,i1,i2,i3,i4,i5,i6,i7,i8,i9,_⟩:=info k q' hk;obtain⟨f1,f2⟩:=meta_ i3;obtain⟨b',off',cur,ty,z1,z2,z3,z4,z5⟩:=hS.boxes r _ f2;rw[f1]at z1;cases z1;exact⟨cur,ty,by rw[i5];exact z3,fun j hj=>by rw[i6,i9];exact z5 j (by omega)⟩
  ·intro q' hq j l e;obtain⟨k,hk⟩:=mem q' hq;obtain⟨q,r,i1,i2,i3,i4,i5,i6,i7,i8,i9,i10,i11⟩:=info k q' hk;obtain⟨hv,m1,m2,_⟩:=i11 j _ e;have:=hS.hok (aO.2 m1);simp only[ff,m2]at this;rw[i9,i10 j l e];exact⟨this.1,this.2.1⟩
  ·intro k p p' j l hp hp' e;obtain⟨q,r,i1,i2,i3,i4,i5,i6,i7,i8,i9,i10,i11⟩:=info k p' hp';rw[hp]at i1;cases i1;obtain⟨hv,m1,m2,m3,m4⟩:=i11 j _ e;refine⟨m3,?_⟩;rw[i9,hS.anc r j hv (aO.2 m1) _ m4 ⟨l,.inr m2⟩];exact hanc r p j l i3 m3
  ·intro q' hq j e;obtain⟨k,hk⟩:=mem q' hq;obtain⟨q,r,i1,i2,i3,i4,i5,i6,i7,i8,i9,i10,i11⟩:=info k q' hk;obtain⟨hv,m1,m2,m3⟩:=i11 j _ e;exact m3
  ·intro k j k' j' p p' l l' hp hp' e e' hne b hb hb';obtain⟨q,r,i1,i2,i3,i4,i5,i6,i7,i8,i9,i10,i11⟩:=info k p hp;obtain⟨q2,r2,i1',i2',i3',i4',i5',i6',i7',i8',i9',i10',i11'⟩:=info k' p' hp';obtain⟨hv,m1,m2,_⟩:=i11 j _ e;obtain⟨hv',m1',m2',_⟩:=i11' j' _ e';rw[i10 j l e]at hb;rw[i10' j' l' e']at hb';have t1:=hS.hok (aO.2 m1);simp only[ff,m2]at t1;have t2:=hS.hok (aO.2 m1');simp only[ff,m2']at t2;have u1:=(t1.2.2 b hb).1;have u2:=(t2.2.2 b hb').1;rw[u1]at u2;cases u2;have hkk:k=k':=by
    rw[i3]at i3';cases i3';by_cases c:k=k';exact c
    ·have:=hpre.sep k k' q q c i1 i1' rfl;have:=(ZG.1 e).1;omega
   subst hkk;exact hne rfl
  ·intro b hb ho;obtain⟨r,j,q,e1,e2,_⟩:=ownTok b ho;obtain⟨_,r',j',m1,m2⟩:=k4 b hb;rw[m2]at e2;cases e2;obtain⟨k,e3,_⟩:=ix.1 e1;have:=Yt.1 (Yt.1 hd2 _ m1) _ (ZC e3);simp at this
  ·intro b hb;rcases hb with hb|hb
   ·obtain⟨hu,r,j,_,m2⟩:=k4 b hb;exact own b r j hu m2
   ·obtain⟨r,j,q,_,m2,hu⟩:=ownTok b hb;exact own b r j hu m2
  ·rintro b ⟨q,hq,rfl⟩;obtain⟨k,hk⟩:=YN hq;obtain⟨r,hr⟩:=rh (p:=0) hpre.args hk;have hpa:=ix.2 ⟨k,hr,hk⟩;obtain⟨c0,c1,ty,z1,z2,z3,z4⟩:=hS.afr r q.b q.off (by simp[hpa]);refine⟨c0,c1,ty,z1,z2,z3,fun i hi=>z4 i (fun r' off' e=>?_)⟩;cases e0:jv 0 ds ps r' with
   |none=>simp[e0]at e
   | some q2=>
     simp[e0]at e ⊢;obtain⟨e1,rfl⟩:=e;obtain⟨k2,_,hk2⟩:=ix.1 e0;exact hi q2 (ZC hk2) e1
 have fin:a'.defers=[]/\∃ v,(results fn a'.tmps).run P w'=.ok v w'/\∃ v' Sr ps',X2 v=.returned v'/\hZ w' ds' v' Sr/\KF w ps outs w' ps' Sr:=
  ⟨hS.defers,_,hrun,_,Sr,_,rfl,hres,post⟩
 rcases hex with rfl|rfl;exact fin;exact fin
end
end Go.V
namespace Go.V
theorem SS:(∀ a b:Int,(dB .eql a b=true)↔a=b)/\(∀ a b:Int,(dB .eql a b=false)↔a≠b)/\(∀ a b:Int,(dB .neq a b=true)↔a≠b)/\(∀ a b:Int,(dB .neq a b=false)↔a=b)/\
 (∀ a b:Int,(dB .lss a b=true)↔a<b)/\(∀ a b:Int,(dB .lss a b=false)↔b<=a)/\(∀ a b:Int,(dB .leq a b=true)↔a<=b)/\(∀ a b:Int,(dB .leq a b=false)↔b<a)/\
 (∀ a b:Int,(dB .gtr a b=true)↔b<a)/\(∀ a b:Int,(dB .gtr a b=false)↔a<=b)/\(∀ a b:Int,(dB .geq a b=true)↔b<=a)/\(∀ a b:Int,(dB .geq a b=false)↔a<b)/\
 (∀ b,(SN b=true)↔b=false)/\(∀ b,(SN b=false)↔b=true)/\(∀ a b,aaS true a b=a)/\(∀ a b,aaS false a b=b)/\
 (∀ a b,(JI .eql a b=true)↔a=b)/\(∀ a b,(JI .eql a b=false)↔a≠b)/\(∀ a b,(JI .neq a b=true)↔a≠b)/\(∀ a b,(JI .neq a b=false)↔a=b)/\
 (∀ n,Sc n=(n:Int))/\(∀ es,lnI es=es.length)/\(∀ f,prI f=f ())/\(∀ n:Nat,WB n=(n:Int))/\(∀ a b,abO a b=a++b)/\(∀ i,nnI i=i.toNat):=
 ⟨fun _ _=>Oj,fun _ _=>Oi,fun _ _=>Ow,fun _ _=>Ov,fun _ _=>Ou,fun _ _=>Ot,fun _ _=>Or,fun _ _=>Oq,fun _ _=>Oo,fun _ _=>On,fun _ _=>Om,fun _ _=>Ol,
   fun _=>afY,fun _=>afX,fun _ _=>rfl,fun _ _=>rfl,fun _ _=>KW,fun _ _=>KV,fun _ _=>KY,fun _ _=>KX,fun _=>rfl,fun _=>rfl,fun _=>rfl,fun _=>rfl,fun _ _=>rfl,fun _=>rfl⟩
end Go.V
namespace Go.V
theorem onc (n:Nat):WB n=(n:Int):=rfl
structure TB (P:Program) where
 Φ:Type
 F0:Φ
 ct:Φ->CT:=noC
 mt:Φ->MT:=adD
 pt:Φ->PT:=adG
 nt:Φ->NT:=adE
 ot:Φ->OT:=adF
 hc:C0 P (ct F0):=by exact aat
 hm:GV P (mt F0):=by exact Ph
 hp:G3 P (pt F0):=by exact Pm
 hn:GW P (nt F0):=by exact Pi
 ho:GY P (ot F0):=by exact Pj
abbrev tb {P:Program}{Φ:Type}{F0:Φ}{ct:Φ->CT}(hc:C0 P (ct F0)):TB P:={Φ:=Φ,F0:=F0,ct:=ct,hc:=hc}
section
variable {P: Program} {T: yN} (B: TB P) (hT: bK P T) (hm: P.follows .mixedOrders = true) {f: FuncId} {fn: Func} {ds: List DV} (n: Nat) (c: Code) (ts: List TypeId) (rvs: List ResultVar)
include hT hm
theorem MM {res:List DV}{outs:List (List H)}(hf:P.funcs[f]?=some fn)(hb:fn.body=some c)(hnt:fn.ntmps=n)(hts:fn.resultTypes.toList=ts)(hrv:fn.results.toList=rvs)(hn:YH ds.length n=true)(hlo:(mpL 0 ds).length=outs.length)(hl0:(mpL 0 ds).all (fun q=>q.2.length.ble 999)=true) 
 (h:∀ O r os F,O=ai->r=res->os=(fun i=>outs.getD i [])->F=B.F0->qn T O ⟨B.ct F,B.mt F,B.pt F,B.nt F,B.ot F⟩ n ((mpL 0 ds).map (·.1)) c (Tg T O ts rvs (mpL 0 ds) r os) (gu 0 ds)):De P f ds outs res:=
 Je hT B.hc B.hm B.hp B.hn B.ho hm n c ts rvs hf hb hnt hts hrv hn hlo hl0 h
end
end Go.V