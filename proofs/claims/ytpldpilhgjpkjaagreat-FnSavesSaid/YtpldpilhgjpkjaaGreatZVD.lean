/-
  A condition generator for functions on trees of data, part 4 of 5: values in memory, contracts, soundness.
-/
import Derived.Test.YtpldpilhgjpkjaaGreatZVC
import Derived.IntWalk
import Derived.ProofKit
set_option linter.all false
open Go
open Act renaming put->ZI
open Bool renaming false_eq_true->ZT,and_eq_true->Zb,not_eq_true'->Yp,rec->Vn,or_eq_false_iff->Xs,or_eq_true->Z5
open Cell renaming okWide->X4,ok->X5
open Code renaming region->Vq,wp_mono->YF
open DataW renaming trod->Xt,TrodAll->X6
open Int renaming toNat_natCast->ZJ
open IntKind renaming i64->Za
open IntWalk renaming i64_in->YZ
open List renaming mem_cons->Zl,any_cons->Xr,range->Zo,flatMap_cons->Y9,filter_filter->WE,filter_congr->XI,mem_range->Yf,range_add->Wq,range_succ->WF,filter_append->X0,filter_eq_nil_iff->X1,mem_map->ZW,flatMap_append->X2,append_nil->Z4,any_eq_true->YW,getElem?_eq_getElem->Zt,filter_eq_self->WG,length_append->Zf,length_cons->Zi,length_nil->Zk,getD_eq_getElem?_getD->Zm,getElem?_append_left->ZQ,getElem?_append_right->ZO,getElem?_eq_none->Z9,getElem?_eq_some_iff->ZB,eq_nil_of_length_eq_zero->Yv,mem_append->Zh,getElem?_drop->Zu,drop_drop->Yj,take_append_drop->ZU,length_drop->Zq,foldl_cons->Y3,getElem?_range->Xm,length_range->XX,nil_append->Yd,map_cons->ZZ,getD->ZD
open List.cons renaming injEq->Vl
open Nat renaming eq_of_beq_eq_true->Z6,beq->ZL,lt_or_ge->Z8,add_zero->Yl,le_refl->Ze,zero_add->ZK,blt->WH,blt_eq->Vr,ne_of_beq_eq_false->WI,add_mul->Zp,zero_le->Zv,succ_mul->Wt,mul_le_mul_right->ZN
open NatCast renaming natCast->VJ
open Option renaming isSome_some->Vm,bind_some->YK,getD_some->Z0,map_eq_some_iff->ZC,map_some->Yk,bind_eq_some_iff->X3
open Option.some renaming injEq->Ya
open Prod.mk renaming injEq->XW
open Region renaming binds->Vo,ready->Vp
open Value renaming okWide->YX
open World renaming cell?->Ys
open _root_.Array renaming getElem?_toList->ZY,getD_eq_getD_getElem?->Yt,getElem?_eq_getElem->Xq,getElem?_eq_some_iff->ZE,replicate->YQ,getElem?_append_left->XZ
namespace Go.V
section
variable {P: Program} {T: vK} {n: Nat} {g: Gm}
def Ma (hT:bO P T){d:Option Tmp}{op:BinOp}{t:TypeId}{x y:Operand}{ls:List Loc}{out:Out}(h:(L9 T aj n d op t x y).Runs g ls out):(IP P n d op t x y).Runs g ls out:=by
 unfold L9 at h;unfold IP;refine dT ?_ h;intro a ls h;refine dT ?_ h;intro b ls h;cases a with
 | v a=>
   cases b with
   | v b=>
     cases a with
     | int k a=>
       cases b with
       | int k' b=>
         by_cases hk:k=k'
         ·subst hk;cases op<;>first|exact h|(simp only[Kr,G3,NF,G0,xY,Ki,beq_self_eq_true,if_true,ZT,if_false]at h ⊢;exact h)|(simp only[Kr,G3,NF,G0,xY,Ki,beq_self_eq_true,if_true,ZT,if_false]at h ⊢;exact⟨trivial,h⟩)|(simp[Kr,G3,NF,G0,Rd.Runs]at h)
         ·cases op<;>first|exact h|(simp[Kr,hk,Rd.Runs]at h)
       |_=>exact h.elim
     | bool a=>
       cases b with
       | bool b=>
         rcases hT.bo t with e|⟨q,e,hb⟩
         ·simp[e,Rd.Runs]at h
         ·cases op<;>first|(simp only[e,hb,Vm,TE,Bool.true_and,Bool.and_true,if_true]at h ⊢;exact h)|(simp[TE,Rd.Runs]at h)
       |_=>exact h.elim
     |_=>exact h.elim
   |_=>cases a<;>exact h.elim
 |_=>exact h.elim
def Pe {d:Option Tmp}{op:UnOp}{x:Operand}{ls:List Loc}{out:Out}(h:(abJ aj n d op x).Runs g ls out):(vUn n d op x).Runs g ls out:=by
 unfold abJ at h;unfold vUn;refine dT ?_ h;intro a ls h;cases a with
 |v a=>cases op<;>cases a<;>exact h
 |_=>cases op<;>exact h
def KC {α:Type}{a:A}{k:Nat->Rd α}{ls:List Loc}{x:α}(h:(Qh aj a k).Runs g ls x):(NS a k).Runs g ls x:=by
 cases a with
 | vn r j ver iv p lo m=>
   refine dC ?_ h;intro hv ls h
   revert h
   generalize hv.c=c;intro h;cases c with
   | own l=>
     refine cX (fun ls h=>?_) h;obtain⟨hs,h⟩:=h;obtain⟨⟨sz,es⟩,e⟩:=Option.isSome_iff_exists.1 hs;obtain⟨rec,o,f1,f2⟩:=qj e;simp only[f1,f2];exact h
   |ro l=>exact h
   |gone=>exact h
 | vw r j ver lo m=>
   refine dC ?_ h;intro hv ls h
   revert h
   generalize hv.c=c;intro h;cases c with
   |own l=>cases l<;>exact h
   |ro l=>exact h
   |gone=>exact h
 |_=>exact h
def tj {α:Type}{ti:TI}{a:A}{k' k:af->List (Nat×Nat)->Rd α}{ls:List Loc}{x:α}(hk:∀ es src ls,(k' es src).Runs g ls x->(k es src).Runs g ls x)(h:(uH aj ti a k').Runs g ls x):(pY ti a k).Runs g ls x:=by
 cases a with
 |nl=>exact hk _ _ _ h
 |ro sz es=>exact cX (fun ls h=>lR id (fun ls h=>hk _ _ _ h) h) h
 | vw r j ver lo m=>
   refine dC ?_ h;intro hv ls h
   revert h
   generalize hv.c=c;intro h;cases c with
   | own l=>cases l with
     | s sz es=>
       refine cX (fun ls h=>?_) h;by_cases hs:mi ti.slots=true
       ·rw[VO hs]at h ⊢;exact lR id (fun ls h=>hk _ _ _ h) h
       ·rw[VP hs]at h ⊢;exact lR id (fun ls h=>hk _ _ _ h) h
     |v x=>exact h
     |g=>exact h
     |m _ _=>exact h
   |ro l=>exact h
   |gone=>exact h
 | vn r j ver iv p lo m=>
   refine dC ?_ h;intro hv ls h
   revert h
   generalize hv.c=c;intro h;cases c with
   | own l=>
     refine cX (fun ls h=>?_) h;obtain⟨⟨h1,h2⟩,h⟩:=h;obtain⟨rec,o,f1,f2⟩:=qj h1;simp only[f1,f2,beq_self_eq_true,if_true];exact⟨h2,hk _ _ _ h⟩
   |ro l=>exact h
   |gone=>exact h
 |_=>exact h
def D1 (hT:bO P T){d:Option Tmp}{t t':TypeId}{s x:Operand}{ls:List Loc}{out:Out}(h:(yV T aj n d t t' s x).Runs g ls out):(mC P n d t t' s x).Runs g ls out:=by
 revert h
 unfold yV mC;rcases hT.el t with e|⟨q,e,e2⟩
 ·simp only[e];exact fun h=>h.elim
 simp only[e,e2];intro h
 ·
   obtain⟨e,ti,b⟩:=q;refine cX (fun ls h=>?_) h;refine dT ?_ h;intro a ls h;refine dT ?_ h;intro b ls h;rw[AL]at h;refine yP ?_ h;intro l og src ls h;cases l with
   | s sz es=>
     refine cX (fun ls h=>?_) h;refine tj ?_ h;intro es2 src2 ls h;exact h
   |v y=>exact h
   |g=>exact h
   |m _ _=>exact h
def Cz (g:Gm){α τ:Type}(m:∀ {β:Type},(τ->Rd β)->Rd β)(k':τ->Rd α)(ls:List Loc)(x:α):Prop:=
 ∃ t ls',(k' t).Runs g ls' x/\∀ {β:Type} (k:τ->Rd β) (y:β),(k t).Runs g ls' y->(m k).Runs g ls y
def Lm {α:Type}{l:Loc}{k':Val->Rd α}{ls:List Loc}{x:α}(h:(rd l k').Runs g ls x):Cz g (fun k=>rd l k) k' ls x:=by
 unfold rd at h;obtain⟨ls',e,h⟩:=h;cases hg:g l with
 |none=>simp[hg,Rd.Runs]at h
 | some v=>
   simp only[hg]at h;refine⟨v,ls',h,?_⟩;intro β k y hy;refine⟨ls',e,?_⟩;simp only[hg];exact hy
def Oz {α:Type}{d:Nat}{k':R->Rd α}{ls:List Loc}{x:α}(h:(Ct d k').Runs g ls x):Cz g (fun k=>Ct d k) k' ls x:=by
 obtain⟨v,ls',h1,h2⟩:=Lm h;cases v with
 |r y=>exact⟨y,ls',h1,fun k z hz=>h2 _ z hz⟩
 |_=>exact h1.elim
def wL {α:Type}{r j:Nat}{k':Hv->Rd α}{ls:List Loc}{x:α}(h:(gD r j k').Runs g ls x):Cz g (fun k=>gD r j k) k' ls x:=by
 obtain⟨v,ls',h1,h2⟩:=Lm h;cases v with
 |h y=>exact⟨y,ls',h1,fun k z hz=>h2 _ z hz⟩
 |_=>exact h1.elim
def EX {α:Type}{o:Operand}{k':R->Rd α}{ls:List Loc}{x:α}(h:(ev o k').Runs g ls x):Cz g (fun k=>ev o k) k' ls x:=by
 cases o with
 |tmp t=>exact Oz h
 |const c=>exact⟨_,ls,h,fun k y hy=>hy⟩
 |_=>exact h.elim
def Jm {α:Type}{slot:Option Nat}{a:A}{k':L->Rd α}{ls:List Loc}{x:α}(h:(GA aj slot a k').Runs g ls x):Cz g (fun k=>EE slot a k) k' ls x:=by
 cases slot with
 | none=>
   cases a with
   | v y=>
     simp only[GA]at h;split at h
     ·rename_i hs;exact⟨_,ls,h,fun k z hz=>by simp only[EE,hs,if_true];exact hz⟩
     ·exact h.elim
   |_=>exact h.elim
 | some sz=>
   cases a with
   |nl=>exact⟨_,ls,h,fun k y hy=>hy⟩
   | ro sz' es=>
     simp only[GA]at h;split at h
     ·rename_i hs;exact⟨_,ls,h,fun k z hz=>by simp only[EE,hs,if_true];exact hz⟩
     ·exact h.elim
   | vw r j ver lo m=>
     obtain⟨hv,ls',h1,h2⟩:=wL h;cases hc:hv.c with
     | own l=>cases l with
       | s sz' es=>
         simp only[hc]at h1;split at h1
         ·rename_i hs;exact⟨_,ls',h1,fun k z hz=>h2 _ z (by simp only[hc,hs,if_true];exact hz)⟩
         ·exact h1.elim
       |v x=>simp[hc,Rd.Runs]at h1
       |g=>simp[hc,Rd.Runs]at h1
       |m _ _=>simp[hc,Rd.Runs]at h1
     |ro l=>simp[hc,Rd.Runs]at h1
     |gone=>simp[hc,Rd.Runs]at h1
   | vn r j ver iv p lo m=>
     obtain⟨hv,ls',h1,h2⟩:=wL h;cases hc:hv.c with
     | own l=>
       simp only[hc]at h1;split at h1
       ·rename_i hg;obtain⟨e1,h1⟩:=h1;obtain⟨rec,o,f1,f2⟩:=qj e1;refine⟨_,ls',h1,fun k z hz=>h2 _ z ?_⟩;simp only[hc,hg,if_true,f1,f2,beq_self_eq_true];exact hz
       ·exact h1.elim
     |ro l=>simp[hc,Rd.Runs]at h1
     |gone=>simp[hc,Rd.Runs]at h1
   |_=>exact h.elim
def mY {α:Type}:∀ {sl:List (Option Nat)} {as:List A} {k':aT->Rd α} {ls:List Loc} {x:α},(kZ aj sl as k').Runs g ls x->Cz g (fun k=>fH sl as k) k' ls x
 |[],[],_,ls,_,h=>⟨_,ls,h,fun _ _ hy=>hy⟩
 |[],_::_,_,_,_,h=>h.elim
 |_::_,[],_,_,_,h=>h.elim
 | _::_,_::_,_,_,_,h=>by
   obtain⟨l,ls1,h1,h2⟩:=Jm h;obtain⟨l2,ls2,h3,h4⟩:=mY h1;exact⟨l::l2,ls2,h3,fun k y hy=>h2 _ y (h4 _ y hy)⟩
def kR {α:Type}{r:Nat}:∀ {m j:Nat} {k':aT->Rd α} {ls:List Loc} {x:α},(fW r j m k').Runs g ls x->Cz g (fun k=>fW r j m k) k' ls x
 |0,_,_,ls,_,h=>⟨_,ls,h,fun _ _ hy=>hy⟩
 | m+1,j,_,_,_,h=>by
   obtain⟨hv,ls1,h1,h2⟩:=wL h;cases hc:hv.c with
   | own l=>
     simp only[hc]at h1;obtain⟨rec,ls2,h3,h4⟩:=kR h1;exact⟨l::rec,ls2,h3,fun k y hy=>h2 _ y (by simp only[hc];exact h4 _ y hy)⟩
   | ro l=>
     simp only[hc]at h1;obtain⟨rec,ls2,h3,h4⟩:=kR h1;exact⟨l::rec,ls2,h3,fun k y hy=>h2 _ y (by simp only[hc];exact h4 _ y hy)⟩
   |gone=>simp[hc,Rd.Runs]at h1
def Nv {α:Type}{l:Loc}{k':Option Val->Rd α}{ls:List Loc}{x:α}(h:(Rd.get l k').Runs g ls x):Cz g (fun k=>Rd.get l k) k' ls x:=by
 obtain⟨ls',e,h⟩:=h;exact⟨g l,ls',h,fun k y hy=>⟨ls',e,hy⟩⟩
def mw {α:Type}:∀ {cs:List Eu} {k':af->Rd α} {ls:List Loc} {x:α},(gd cs k').Runs g ls x->Cz g (fun k=>gd cs k) k' ls x
 |[],_,ls,_,h=>⟨_,ls,h,fun _ _ hy=>hy⟩
 | .pt r j::cs,_,_,_,h=>by
   obtain⟨v,ls1,h1,h2⟩:=Nv h;dsimp only at h1;split at h1
   ·rename_i n;split at h1
    ·rename_i hj;obtain⟨rec,ls2,h3,h4⟩:=kR h1;obtain⟨recs,ls3,h5,h6⟩:=mw h3;exact⟨rec::recs,ls3,h5,fun k y hy=>h2 _ y (by simp only[hj,if_true];exact h4 _ y (h6 _ y hy))⟩
    ·exact h1.elim
   ·exact h1.elim
 | .rp rec j::cs,_,_,_,h=>by
   simp only[gd]at h;split at h
   ·rename_i hj;obtain⟨recs,ls3,h5,h6⟩:=mw h;exact⟨_,ls3,h5,fun k y hy=>by simp only[gd,hj,if_true];exact h6 _ y hy⟩
   ·exact h.elim
def Bg {α:Type}{o:Operand}{k':A->Rd α}{ls:List Loc}{x:α}(h:(fM o k').Runs g ls x):Cz g (fun k=>fM o k) k' ls x:=by
 obtain⟨v,ls1,h1,h2⟩:=EX h;cases v with
 |one a=>exact⟨a,ls1,h1,fun k y hy=>h2 _ y hy⟩
 |agg as=>exact h1.elim
 |tup rs=>exact h1.elim
def Jo (hT:bO P T){α:Type}{t:TypeId}{o:Operand}{k':DV->Rd α}{ls:List Loc}{x:α}(h:(Jn (lk T.ptL t) o k').Runs g ls x):Cz g (fun k=>Jn (Hp P t) o k) k' ls x:=by
 obtain⟨v,ls1,h1,h2⟩:=Bg h;cases v with
 | pt r j=>
   rcases hT.pt t with e|⟨ti,e,e2⟩
   ·simp[e,Rd.Runs]at h1
   ·simp only[e]at h1;split at h1
    ·rename_i hp;obtain⟨rec,ls2,h3,h4⟩:=kR h1;exact⟨_,ls2,h3,fun k y hy=>h2 _ y (by simp only[e2,hp,if_true];exact h4 _ y hy)⟩
    ·exact h1.elim
 | rp rec j=>
   rcases hT.pt t with e|⟨ti,e,e2⟩
   ·simp[e,Rd.Runs]at h1
   ·simp only[e]at h1;split at h1
    ·rename_i hp;exact⟨_,ls1,h1,fun k y hy=>h2 _ y (by simp only[e2];rw[VO hp];exact hy)⟩
    ·exact h1.elim
 | fn f caps=>
   obtain⟨recs,ls2,h3,h4⟩:=mw h1;exact⟨_,ls2,h3,fun k y hy=>h2 _ y (h4 _ y hy)⟩
 |_=>exact h1.elim
def Jl (hT:bO P T){α:Type}{t:TypeId}{o:Operand}{k':DV->Rd α}{ls:List Loc}{x:α}(h:(Jk T aj t o k').Runs g ls x):Cz g (fun k=>EB P t o k) k' ls x:=by
 unfold Jk at h;rcases hT.ty t with e|⟨ti,e,hti⟩
 ·simp only[e]at h;split at h
  ·rename_i hp;rcases hT.pn t with f|⟨_,_,f⟩
   ·simp[f]at hp
   ·obtain⟨d,ls1,h1,h2⟩:=Jo hT h;exact⟨d,ls1,h1,fun k y hy=>by unfold EB;simp only[f];exact h2 _ y hy⟩
  ·exact h.elim
 ·simp only[e]at h;obtain⟨v,ls1,h1,h2⟩:=EX h;cases v with
  | one a=>
    simp only at h1;split at h1
    ·exact h1.elim
    ·rename_i hb;obtain⟨l,ls2,h3,h4⟩:=mY h1;simp only at h3;split at h3
     ·refine⟨_,ls2,h3,fun k y hy=>?_⟩;unfold EB;simp only[hti];refine h2 _ y ?_;simp only;rw[VP hb];exact h4 _ y hy
     ·exact h3.elim
  | agg as=>
    simp only at h1;split at h1
    ·rename_i hb;obtain⟨l,ls2,h3,h4⟩:=mY h1;refine⟨_,ls2,h3,fun k y hy=>?_⟩;unfold EB;simp only[hti];refine h2 _ y ?_;simp only;rw[VO hb];exact h4 _ y hy
    ·exact h1.elim
  |tup rs=>exact h1.elim
def tL (hT:bO P T){α:Type}:∀ {ts:List TypeId} {xs:List Operand} {k':List DV->Rd α} {ls:List Loc} {x:α},(AY T aj ts xs k').Runs g ls x->Cz g (fun k=>rU P ts xs k) k' ls x
 |[],[],_,ls,_,h=>⟨_,ls,h,fun _ _ hy=>hy⟩
 |[],_::_,_,_,_,h=>h.elim
 |_::_,[],_,_,_,h=>h.elim
 | _::_,_::_,_,_,_,h=>by
   obtain⟨l,ls1,h1,h2⟩:=Jl hT h;obtain⟨l2,ls2,h3,h4⟩:=tL hT h1;exact⟨l::l2,ls2,h3,fun k y hy=>h2 _ y (h4 _ y hy)⟩
def H4 {α:Type}{d:Option Tmp}{k':Nat->Rd α}{ls:List Loc}{x:α}(h:(fresh n d k').Runs g ls x):Cz g (fun k=>fresh n d k) k' ls x:=by
 cases d with
 |none=>exact h.elim
 | some d=>
   simp only[fresh]at h;split at h
   ·rename_i hlt;obtain⟨ls',e,h⟩:=h;cases hg:g (.meta_ d)with
    | none=>
      simp only[hg]at h;refine⟨d,ls',h,fun k y hy=>?_⟩;simp only[fresh,hlt,if_true,Rd.Runs];exact⟨ls',e,by simp only[hg];exact hy⟩
    |some v=>simp[hg,Rd.Runs]at h
   ·exact h.elim
def zu (P:Program)(ct:CT):Prop:=∀ f ds pre res,ct f ds=some (pre,res)->pre ()->IU P f ds res
def CB (P:Program)(mt:MT):Prop:=∀ f mk,mt f=some mk->∀ ds pre outs res,mk ds=some (pre,outs,res)->pre ()->HU P f ds outs res
def CF (P:Program)(pt:FuncId->Option PK):Prop:=∀ f mk,pt f=some mk->∀ ds pre outs res,mk ds=some (pre,outs,res)->pre ()->zy P f ds outs res
def CC (P:Program)(nt:FuncId->Option NK):Prop:=∀ f mk,nt f=some mk->∀ ds pre hs,mk ds=some (pre,hs)->pre ()->HW P f ds hs
def CE (P:Program)(ot:FuncId->Option RG):Prop:=∀ f mk,ot f=some mk->∀ ds pre res,mk ds=some (pre,res)->pre ()->AU P f ds res
def wR (P:Program)(ct:Gu):Prop:=zu P ct.rd/\CB P ct.mu/\CF P ct.pt/\CC P ct.nw/\CE P ct.tk
def RP (P:Program)(n:Nat)(o:Oper)(rd:Rd Out):Prop:=
 ∀ (cx:Cx) (G:Gh) (g:Gm) (a:Act) (w:World) (ls:List Loc) (ws:List W),cx.n=n->aP cx G g a w->rd.Runs g ls (.ws ws)->
  ∀ (K:Act->World->Prop) (Q:Exit->Act->World->Prop),(∀ a' w',eG cx (aV g ws) a' w'->K a' w')->o.wp P a w K Q
def eS (P:Program)(n:Nat)(o:Oper)(g:Gm)(ls:List Loc)(ws:List W):Prop:=
 (kg o=none/\(vop P n o).Runs g ls (.ws ws))\/
 (∃ f ts args ds mk res,kg o=some (f,ts,args)/\(AO P n o.dst f ts args).Runs g ls (.call f ds mk)/\IU P f ds res/\ws=mk res)\/
 (∃ f ts args mk,kg o=some (f,ts,args)/\(∀ ds pre outs res,mk ds=some (pre,outs,res)->pre ()->HU P f ds outs res)/\(uK mS nD jL (mg P) n o.dst (dx P f) ts args mk dO).Runs g ls (.ws ws))\/
 ∃ rd,RP P n o rd/\rd.Runs g ls (.ws ws)
def Iv {α:Type}{slot:Option Nat}{a:A}{k' k:L->List Pl->Rd α}{x:α}{ls:List Loc}(hk:∀ l p ls,(k' l p).Runs g ls x->(k l p).Runs g ls x)(h:(K6 mS nD slot a k').Runs g ls x):(K6 mS nD slot a k).Runs g ls x:=by
 cases slot with
 | none=>
   cases a with
   |v y=>exact cX (fun ls h=>hk _ _ _ h) h
   |_=>exact h
 | some sz=>
   cases a with
   | vw r j ver lo m=>
     refine dC ?_ h;intro hv ls h
     revert h
     generalize hv.c=c;intro h;cases c with
     | own l=>cases l with
       |s sz' es=>exact cX (fun ls h=>lR id (fun ls h=>hk _ _ _ h) h) h
       |v x=>exact h
       |g=>exact h
       |m _ _=>exact h
     |ro l=>exact h
     |gone=>exact h
   | vn r j ver iv p lo m=>
     refine dC ?_ h;intro hv ls h
     revert h
     generalize hv.c=c;intro h;cases c with
     | own l=>cases l with
       |s sz' es=>exact cX (fun ls h=>lR id (fun ls h=>hk _ _ _ h) h) h
       |v x=>exact h
       |g=>exact h
       |m _ _=>exact h
     |ro l=>exact h
     |gone=>exact h
   |_=>exact h
def pN {α:Type}:∀ {sl:List (Option Nat)} {as:List A} {k' k:aT->List Pl->Rd α} {x:α} {ls:List Loc},(∀ l p ls,(k' l p).Runs g ls x->(k l p).Runs g ls x)->(uy mS nD sl as k').Runs g ls x->(uy mS nD sl as k).Runs g ls x
 |[],[],k',k,x,ls,hk,h=>hk _ _ _ h
 |[],_::_,k',k,x,ls,hk,h=>h
 |_::_,[],k',k,x,ls,hk,h=>h
 |s::sl,a::as,k',k,x,ls,hk,h=>Iv (fun l p ls h=>pN (fun _ _ ls h=>hk _ _ ls h) h) h
def Ix {ty ty':TypeId->Option TI}(ht:∀ t x,ty t=some x->ty' t=some x){α:Type}{t:TypeId}{o:Operand}{k' k:DV->List Pl->Rd α}{x:α}{ls:List Loc}(hk:∀ d p ls,(k' d p).Runs g ls x->(k d p).Runs g ls x) 
 (h:(Iw mS nD ty t o k').Runs g ls x):(Iw mS nD ty' t o k).Runs g ls x:=by
 unfold Iw at h ⊢;cases hti:ty t with
 |none=>simp[hti,Rd.Runs]at h
 | some ti=>
   simp only[hti]at h;simp only[ht t ti hti];refine sL ?_ h;intro v ls h;cases v with
   | one a=>
     simp only at h ⊢;split at h
     ·exact h.elim
     ·rename_i hb;rw[VP hb];refine pN ?_ h;intro l p ls h;split at h
      ·exact hk _ _ _ h
      ·exact h.elim
   | agg as=>
     simp only at h ⊢;split at h
     ·rename_i hb;rw[VO hb];exact pN (fun l p ls h=>hk _ _ _ h) h
     ·exact h.elim
   |tup rs=>exact h
def yk {ty ty':TypeId->Option TI}(ht:∀ t x,ty t=some x->ty' t=some x){α:Type}:∀ {ts:List TypeId} {xs:List Operand} {k' k:List DV->List Pl->Rd α} {x:α} {ls:List Loc},(∀ d p ls,(k' d p).Runs g ls x->(k d p).Runs g ls x)->
 (AE mS nD ty ts xs k').Runs g ls x->(AE mS nD ty' ts xs k).Runs g ls x
 |[],[],k',k,x,ls,hk,h=>hk _ _ _ h
 |[],_::_,k',k,x,ls,hk,h=>h
 |_::_,[],k',k,x,ls,hk,h=>h
 |t::ts,o::xs,k',k,x,ls,hk,h=>Ix ht (fun d p ls h=>yk ht (fun _ _ ls h=>hk _ _ ls h) h) h
def D3 (hT:bO P T){o:Oper}{f:FuncId}{ts:Array TypeId}{args:Array Operand}{mk:MK}{ls:List Loc}{ws:List W}(hc:kg o=some (f,ts,args))(hmk:∀ ds pre outs res,mk ds=some (pre,outs,res)->pre ()->HU P f ds outs res) 
 (h:(uK aj.pr aj.ps aj.up (lk T.tyL) n o.dst (lk T.fnL f).isSome ts args mk (fZ aj)).Runs g ls (.ws ws)):eS P n o g ls ws:=by
 refine .inr (.inr (.inl ⟨f,ts,args,mk,hc,hmk,?_⟩));rw[show aj.pr=mS from rfl,show aj.ps=nD from rfl,show aj.up=jL from rfl,show fZ aj=dO from by funext d res;exact kX d res]at h;unfold uK at h ⊢;split at h
 ·rename_i hb';have hb:dx P f=true:=by
   rcases hT.fn f with e|⟨_,_,e⟩
   ·rw[e]at hb';cases hb'
   ·exact e
  rw[VO hb];refine yk ?_ (fun _ _ _ h=>h) h;intro t x e;rcases hT.ty t with q|⟨y,q1,q2⟩
  ·rw[q]at e;cases e
  ·rw[q1]at e;cases e;exact q2
 ·exact h.elim
def Gn (hT:bO P T){ct:Gu}(hct:wR P ct){o:Oper}{f:FuncId}{ts:Array TypeId}{args:Array Operand}{ls:List Loc}{ws:List W}(hc:kg o=some (f,ts,args)) 
 (h:(Gj T aj ct n o.dst f ts args).Runs g ls (.ws ws)):eS P n o g ls ws:=by
 unfold Gj at h;split at h
 ·rename_i hb';have hb:dx P f=true:=by
   rcases hT.fn f with e|⟨_,_,e⟩
   ·rw[e]at hb';cases hb'
   ·exact e
  obtain⟨ds,ls1,h1,h2⟩:=tL hT h;simp only at h1;split at h1
  ·rename_i pre res he;obtain⟨hp,h1⟩:=h1;obtain⟨d,ls2,h3,h4⟩:=H4 h1;simp only[Rd.Runs,Out.ws.injEq]at h3;obtain⟨rfl,rfl⟩:=h3;refine .inr (.inl ⟨f,ts,args,ds,dO d,res,hc,?_,hct.1 _ _ _ _ he hp,by rw[kX]⟩);unfold AO;rw[VO hb];refine h2 _ _ (h4 _ _ ?_);simp[Rd.Runs]
  ·exact h1.elim
 ·exact h.elim
def rE {α:Type}{r:Nat}:∀ {m j:Nat} {k':List H->Rd α} {ls:List Loc} {x:α},(mP r j m k').Runs g ls x->Cz g (fun k=>mP r j m k) k' ls x
 |0,_,_,ls,_,h=>⟨_,ls,h,fun _ _ hy=>hy⟩
 | m+1,j,_,_,_,h=>by
   obtain⟨hv,ls1,h1,h2⟩:=wL h;cases hc:hv.c with
   | own l=>
     simp only[hc]at h1;obtain⟨rec,ls2,h3,h4⟩:=rE h1;exact⟨.own l::rec,ls2,h3,fun k y hy=>h2 _ y (by simp only[hc];exact h4 _ y hy)⟩
   | ro l=>
     simp only[hc]at h1;obtain⟨rec,ls2,h3,h4⟩:=rE h1;exact⟨.ro l::rec,ls2,h3,fun k y hy=>h2 _ y (by simp only[hc];exact h4 _ y hy)⟩
   |gone=>simp[hc,Rd.Runs]at h1
def K9 (hT:bO P T){α:Type}{t:TypeId}{o:Operand}{k':DV×List (Nat×Nat)×List lZ->Rd α}{ls:List Loc}{x:α} 
 (h:(BD (fun {β}=>kZ aj (α:=β)) (lk T.tyL) (lk T.ptL) (fun t=>(lk T.pnL t).isSome) t o fun d s p=>k' (d,s,p)).Runs g ls x):Cz g (fun k=>BD fH (mg P) (Hp P) (fun _=>true) t o fun d s p=>k (d,s,p)) k' ls x:=by
 unfold BD at h;rcases hT.ty t with e|⟨ti,e,hti⟩
 ·simp only[e]at h;split at h
  case isFalse=>exact h.elim
  rename_i hp;rcases hT.pn t with f|⟨_,_,f⟩
  ·simp[f]at hp
  obtain⟨v,ls1,h1,h2⟩:=Bg h;cases v with
  | pt r j=>
    rcases hT.pt t with e3|⟨ti,e3,e4⟩
    ·simp[e3,Rd.Runs]at h1
    ·simp only[e3]at h1;split at h1
     ·rename_i hpos;obtain⟨hs,ls2,h3,h4⟩:=rE h1;exact⟨(_,_,_),ls2,h3,fun k y hy=>by unfold BD;simp only[f,if_true];exact h2 _ y (by simp only[e4,hpos,if_true];exact h4 _ y hy)⟩
     ·exact h1.elim
  |_=>exact h1.elim
 ·simp only[e]at h;obtain⟨v,ls1,h1,h2⟩:=EX h;cases v with
  | one a=>
    simp only at h1;split at h1
    ·exact h1.elim
    ·rename_i hb;obtain⟨l,ls2,h3,h4⟩:=mY h1;simp only at h3;split at h3
     ·refine⟨(_,_,_),ls2,h3,fun k y hy=>?_⟩;unfold BD;simp only[hti];refine h2 _ y ?_;simp only;rw[VP hb];exact h4 _ y hy
     ·exact h3.elim
  | agg as=>
    simp only at h1;split at h1
    ·rename_i hb;obtain⟨l,ls2,h3,h4⟩:=mY h1;refine⟨(_,_,_),ls2,h3,fun k y hy=>?_⟩;unfold BD;simp only[hti];refine h2 _ y ?_;simp only;rw[VO hb];exact h4 _ y hy
    ·exact h1.elim
  |tup rs=>exact h1.elim
def uz (hT:bO P T){α:Type}:∀ {ts:List TypeId} {xs:List Operand} {k':List DV×List (Nat×Nat)×List lZ->Rd α} {ls:List Loc} {x:α},
 (s8 (fun {β}=>kZ aj (α:=β)) (lk T.tyL) (lk T.ptL) (fun t=>(lk T.pnL t).isSome) ts xs fun d s p=>k' (d,s,p)).Runs g ls x->Cz g (fun k=>s8 fH (mg P) (Hp P) (fun _=>true) ts xs fun d s p=>k (d,s,p)) k' ls x
 |[],[],_,ls,_,h=>⟨(_,_,_),ls,h,fun _ _ hy=>hy⟩
 |[],_::_,_,_,_,h=>h.elim
 |_::_,[],_,_,_,h=>h.elim
 | t::ts,o::xs,k',_,_,h=>by
   obtain⟨⟨d,s,p⟩,ls1,h1,h2⟩:=K9 hT (k':=fun q=>s8 (fun {β}=>kZ aj (α:=β)) (lk T.tyL) (lk T.ptL) (fun t=>(lk T.pnL t).isSome) ts xs fun ds srcs pts=>k' (q.1::ds,q.2.1++srcs,q.2.2++pts)) h;obtain⟨⟨ds,ss,ps⟩,ls2,h3,h4⟩:=uz hT (k':=fun q=>k' (d::q.1,s++q.2.1,p++q.2.2)) h1;exact⟨(_,_,_),ls2,h3,fun k y hy=>h2 (fun q=>s8 fH (mg P) (Hp P) (fun _=>true) ts xs fun ds srcs pts=>k (q.1::ds,q.2.1++srcs,q.2.2++pts)) y (h4 (fun q=>k (d::q.1,s++q.2.1,p++q.2.2)) y hy)⟩
def D5 (hT:bO P T){o:Oper}{f:FuncId}{ts:Array TypeId}{args:Array Operand}{mk:PK}{ls:List Loc}{ws:List W}(hc:kg o=some (f,ts,args))(hmk:∀ ds pre outs res,mk ds=some (pre,outs,res)->pre ()->zy P f ds outs res) 
 (h:(uM aj.pr (fun {β}=>kZ aj (α:=β)) (lk T.tyL) (lk T.ptL) (fun t=>(lk T.pnL t).isSome) n o.dst (lk T.fnL f).isSome ts args mk (fZ aj)).Runs g ls (.ws ws)):eS P n o g ls ws:=by
 refine .inr (.inr (.inr ⟨uM mS fH (mg P) (Hp P) (fun _=>true) n o.dst (dx P f) ts args mk dO,?_,?_⟩))
 ·intro cx G g a w ls ws hn hS h K Q hk;subst hn;exact Cd (pp hc) hS hmk h hk
 ·rw[show aj.pr=mS from rfl,show fZ aj=dO from by funext d res;exact kX d res]at h;unfold uM at h ⊢;split at h
  ·rename_i hb';have hb:dx P f=true:=by
    rcases hT.fn f with e|⟨_,_,e⟩
    ·rw[e]at hb';cases hb'
    ·exact e
   rw[VO hb];obtain⟨⟨ds,ss,ps⟩,ls1,h1,h2⟩:=uz hT (k':=fun q=>match mk q.1 with
    | some (pre,outs,res)=>if oT q.2.2&&q.2.1.all (fun s=>q.2.2.all fun p=> !Dg s p)then .req (mS pre) (IN q.2.2 outs fun ws=>match o.dst with
       |some _=>fresh n o.dst fun d=>.ret (Out.ws (ws++dO d res))
       |none=>.ret (Out.ws ws))else .fail
    |none=>.fail) h
   exact h2 (fun q=>match mk q.1 with
    | some (pre,outs,res)=>if oT q.2.2&&q.2.1.all (fun s=>q.2.2.all fun p=> !Dg s p)then .req (mS pre) (IN q.2.2 outs fun ws=>match o.dst with
       |some _=>fresh n o.dst fun d=>.ret (Out.ws (ws++dO d res))
       |none=>.ret (Out.ws ws))else .fail
    |none=>.fail) _ h1
  ·exact h.elim
def Gi (hT:bO P T){ct:Gu}{d:Option Tmp}{t:Tmp}{ts:Array TypeId}{args:Array Operand}{ls:List Loc}{out:Out} 
 (h:(B9 T aj ct n d t ts args).Runs g ls out):(B8 P ct.rd n d t ts args).Runs g ls out:=by
 unfold B9 at h;obtain⟨v,ls1,h1,h2⟩:=Bg h;cases v with
 | fn f caps=>
   obtain⟨ds,ls2,h3,h4⟩:=tL hT h1;obtain⟨recs,ls3,h5,h6⟩:=mw h3;unfold B8;refine h2 _ _ (h4 _ _ (h6 _ _ ?_));cases hm:ct.rd f (ds++recs.map .ptr)with
   |none=>simp[hm,Rd.Runs]at h5
   | some pr=>
     obtain⟨pre,res⟩:=pr;simp only[hm]at h5 ⊢;obtain⟨hp,hb,h5⟩:=h5;refine⟨⟨hp,?_⟩,?_⟩
     ·rcases hT.fn f with e|⟨_,_,e⟩
      ·have hb:(lk T.fnL f).isSome=true:=hb;rw[e]at hb;cases hb
      ·exact e
     ·rw[show fZ aj=dO from by funext d res;exact kX d res]at h5;exact h5
 |_=>exact h1.elim
def D2 (hT:bO P T){d:Option Tmp}{t:Tmp}{ts:Array TypeId}{args:Array Operand}{pt:FuncId->Option PK}{ls:List Loc}{out:Out} 
 (h:(qE mS (fun {β}=>kZ aj (α:=β)) (lk T.tyL) (lk T.ptL) (fun t=>(lk T.pnL t).isSome) n d (fun f=>(lk T.fnL f).isSome) t ts args pt (fZ aj)).Runs g ls out):
 (qE mS fH (mg P) (Hp P) (fun _=>true) n d (dx P) t ts args pt dO).Runs g ls out:=by
 unfold qE at h ⊢;refine dT ?_ h;intro v ls h;cases v with
 | fn f caps=>
   simp only at h ⊢;cases hm:pt f with
   |none=>simp[hm,Rd.Runs]at h
   | some mk=>
     simp only[hm]at h ⊢;rcases hT.fn f with e|⟨_,e1,e2⟩
     ·simp[e,Rd.Runs]at h
     rw[VO e2];rw[VO (by rw[e1];rfl)]at h;rw[show fZ aj=dO from by funext d res;exact kX d res]at h;obtain⟨⟨ds,ss,ps⟩,ls1,h1,h2⟩:=uz hT (k':=fun q=>xB caps fun ds2 pts2=>DW mS n d (q.1++ds2) q.2.1 (q.2.2++pts2) mk dO) h;exact h2 (fun q=>xB caps fun ds2 pts2=>DW mS n d (q.1++ds2) q.2.1 (q.2.2++pts2) mk dO) _ h1
 |_=>exact h.elim
def Gl (P:Program)(ct:Gu)(n:Nat)(d:Option Tmp)(t:Tmp)(ts:Array TypeId)(args:Array Operand):Rd Out:=
 fM (.tmp t) fun
  | .fn f _=>match ct.pt f with
    |some _=>qE mS fH (mg P) (Hp P) (fun _=>true) n d (dx P) t ts args ct.pt dO
    |none=>B8 P ct.rd n d t ts args
  |_=>.fail
def D7 (hT:bO P T){ct:Gu}(hct:wR P ct){o:Oper}{t:Tmp}{ts:Array TypeId}{args:Array Operand}{ls:List Loc}{ws:List W}(ho:o.op=.call {callee:=.value (.tmp t),args:=args,argTypes:=ts}) 
 (h:(Cf T aj ct n o.dst t ts args).Runs g ls (.ws ws)):eS P n o g ls ws:=by
 refine .inr (.inr (.inr ⟨Gl P ct n o.dst t ts args,?_,?_⟩))
 ·intro cx G g a w ls ws hn hS h K Q hk;subst hn;unfold Gl at h;obtain⟨x0,ls1,hx,h⟩:=bF hS h;cases x0 with
  | fn f caps=>
    simp only at h;split at h
    ·exact zO ho hS (fun f mk e=>hct.2.2.1 f mk e) h hk
    ·exact Ca (fun f ds pre res e hp=>hct.1 f ds pre res e hp) ho hS h hk
  |_=>exact h.elim
 ·unfold Cf at h;unfold Gl;refine dT ?_ h;intro v ls h;cases v with
  | fn f caps=>
    simp only at h ⊢;cases hm:ct.pt f with
    |some mk=>simp only[hm]at h ⊢;exact D2 hT h
    |none=>simp only[hm]at h ⊢;exact Gi hT h
  |_=>exact h.elim
def D4 (hT:bO P T){o:Oper}{c:Call}{f:FuncId}{mk:NK}{ls:List Loc}{ws:List W}(e1:o.op=.call c)(e2:c.callee=.value (.func f))(hmk:∀ ds pre hs,mk ds=some (pre,hs)->pre ()->HW P f ds hs) 
 (h:(uL mS n o.dst (lk T.fnL f).isSome c.args mk).Runs g ls (.ws ws)):eS P n o g ls ws:=by
 refine .inr (.inr (.inr ⟨uL mS n o.dst (dx P f) c.args mk,?_,?_⟩))
 ·intro cx G g a w ls ws hn hS h K Q hk;subst hn;obtain⟨cal,as,ats⟩:=c;simp only at e2;subst e2;exact Cc e1 hS hmk h hk
 ·unfold uL at h ⊢;split at h
  ·rename_i hb';have hb:dx P f=true:=by
    rcases hT.fn f with e|⟨_,_,e⟩
    ·rw[e]at hb';cases hb'
    ·exact e
   rw[VO hb];exact h
  ·exact h.elim
def GR {α:Type}{x:Operand}{k':A->Rd α}{ls:List Loc}{o:α}(h:(fM x k').Runs g ls o):
 ∃ a ls1 ls',(k' a).Runs g ls' o/\∀ {β:Type} (k:A->Rd β) (ls'':List Loc) (o':β),(k a).Runs g ls'' o'->(fM x k).Runs g (ls1++ls'') o':=by
 unfold fM ev at h;cases x with
 | tmp t=>
   simp only[Ct,rd,Rd.Runs]at h;obtain⟨ls',_,h⟩:=h;cases hg:g (.reg t)with
   |none=>simp only[hg]at h;exact h.elim
   | some v=>
     cases v with
     | r y=>
       cases y with
       | one a=>
         simp only[hg]at h;refine⟨a,[.reg t],ls',h,fun k ls'' o' hk=>?_⟩;simp only[fM,ev,Ct,rd,Rd.Runs];refine⟨ls'',rfl,?_⟩;rw[hg];exact hk
       |agg _=>simp only[hg]at h;exact h.elim
       |tup _=>simp only[hg]at h;exact h.elim
     |h _=>simp only[hg]at h;exact h.elim
     |m _ _=>simp only[hg]at h;exact h.elim
 | const c=>
   simp only at h;cases hc:A8 c with
   | one a=>
     rw[hc]at h;refine⟨a,[],ls,h,fun k ls'' o' hk=>?_⟩;unfold fM ev;simp only[hc];exact hk
   |agg _=>rw[hc]at h;exact h.elim
   |tup _=>rw[hc]at h;exact h.elim
 |_=>exact h.elim
def uq {ln:Ln}{v:Option Val}{a b c:Nat}(h:dJ ln v=some (a,b,c)):∃ hv es,v=some (.h hv)/\hv.c=.own (.s b es)/\a=hv.ver/\c=ln.f es:=by
 unfold dJ at h
 repeat' split at h
 all_goals first|(cases h;done)|(rename_i hv _ sz es e;simp only[Ya,XW]at h;obtain⟨rfl,rfl,rfl⟩:=h;exact⟨_,es,rfl,e,rfl,rfl⟩)
def Cl {d:Option Tmp}{t:TypeId}{x:Operand}{lo hi mx:Option Operand}{ls:List Loc}{out:Out}(h:(zd T aj n d t x lo hi mx).Runs g ls out):∃ ls2,(tz T aj n d t x lo hi mx).Runs g ls2 out:=by
 unfold zd at h;cases he:lk T.elL t with
 |none=>simp only[he]at h;exact h.elim
 | some q=>
   obtain⟨e,ti,b⟩:=q;cases mx with
   |some _=>simp only[he]at h;exact h.elim
   | none=>
     simp only[he]at h;obtain⟨a,ls1,ls',h1,h2⟩:=GR h;cases a with
     | vw r j ver lo' m=>
       simp only at h1;obtain⟨ls3,_,h1⟩:=h1
       revert h1;generalize hh:dJ _ (g (.leaf r j))=q;intro h1
       cases q with
       |none=>exact h1.elim
       | some q=>
         obtain⟨v,s,m'⟩:=q;obtain⟨hv,es,e1,e2,e3,e4⟩:=uq hh;simp only at h1;unfold tz;simp only[he];refine⟨_,h2 _ (.leaf r j::ls3) _ ?_⟩;simp only[gD,rd,Rd.Runs];refine⟨ls3,rfl,?_⟩;rw[e1];simp only[e2];subst e3;exact h1
     |_=>exact⟨_,h1⟩
def Ec {d:Option Tmp}{t:TypeId}{x:Operand}{ls:List Loc}{out:Out}(h:(tx T aj n d t x).Runs g ls out):∃ ls2,(rO T aj n d t x).Runs g ls2 out:=by
 unfold tx at h;cases hp:aaT (lk T.tyL t)with
 |false=>simp only[hp]at h;exact⟨_,h⟩
 | true=>
   simp only[hp]at h;cases he:lk T.tyL t with
   |none=>rw[he]at hp;cases hp
   | some ti=>
     rw[he]at hp;simp only[aaT,Zb,Yp]at hp;have hz:=Z6 hp.2;obtain⟨a,ls1,ls',h1,h2⟩:=GR h;cases a with
     | pt r j=>
       simp only at h1;obtain⟨ls3,_,h1⟩:=h1
       revert h1;generalize hh:dJ _ (g (.leaf r j))=q;intro h1
       cases q with
       |none=>exact⟨_,h1⟩
       | some q=>
         obtain⟨v,s,m'⟩:=q;obtain⟨hv,es,e1,e2,e3,e4⟩:=uq hh;simp only at h1;unfold rO;simp only[he];refine⟨_,h2 _ (.leaf r j::ls3) _ ?_⟩;simp only[hz,hZ,gD,rd,Rd.Runs];refine⟨ls3,rfl,?_⟩;rw[e1];simp only[Ft,Fs,e2,N7,hp.1];subst e3 e4;exact h1
     |_=>exact⟨_,h1⟩
def Cm (hT:bO P T){o:Oper}{t:TypeId}{x:Operand}{lo hi mx:Option Operand}{ls:List Loc}{ws:List W}(ho:o.op=.slice t x lo hi mx)(h:(tA T aj n o.dst t x lo hi mx).Runs g ls (.ws ws)):eS P n o g ls ws:=by
 refine .inr (.inr (.inr ⟨tA T aj n o.dst t x lo hi mx,?_,h⟩));intro cx G g a w ls ws hn hS h K Q hk;subst hn;unfold tA at h;obtain⟨x0,ls1,_,h⟩:=bF hS h;cases x0 with
 | vn r j ver iv p lo m=>
   simp only at h;refine zT (ls:=ls1) ho hS ?_ hk;unfold wP at h ⊢;rcases hT.el t with e|⟨y,e,e2⟩
   ·rw[e]at h;exact h.elim
   ·rw[e]at h;rw[e2];exact h
 |_=>obtain⟨ls2,h2⟩:=Cl h;exact tC ho hS (Gr hT h2) hk
def Ed (hT:bO P T){o:Oper}{t:TypeId}{x:Operand}{ls:List Loc}{ws:List W}(ho:o.op=.load t x)(h:(tx T aj n o.dst t x).Runs g ls (.ws ws)):eS P n o g ls ws:=by
 refine .inr (.inr (.inr ⟨tx T aj n o.dst t x,?_,h⟩));intro cx G g a w ls ws hn hS h K Q hk;subst hn;obtain⟨ls2,h2⟩:=Ec h;exact vJ ho cx.n cx rfl G g a w _ ws hS (IQ hT h2) K Q hk
def uT (hT:bO P T){o:Oper}{t:TypeId}{x i:Operand}{ls:List Loc}{ws:List W}(ho:o.op=.indexAddr t x i)(h:(kV T aj n o.dst t x i).Runs g ls (.ws ws)):eS P n o g ls ws:=by
 refine .inr (.inr (.inr ⟨kV T aj n o.dst t x i,?_,h⟩));intro cx G g a w ls ws hn hS h K Q hk;subst hn;unfold kV at h;rcases hT.el t with e|⟨q,e,e2⟩
 ·simp only[e]at h;exact h.elim
 obtain⟨e0,ti,b⟩:=q;simp only[e]at h;obtain⟨x0,ls1,hx,h⟩:=bF hS h;cases x0 with
 | vw r j ver lo m=>
   simp only at h;obtain⟨ls3,_,h⟩:=h
   revert h;generalize hh:dJ _ (g (.leaf r j))=q;intro h
   cases q with
   |none=>exact h.elim
   | some q=>
     obtain⟨v,s,m'⟩:=q;obtain⟨hv,es,e1,e3,e4,e5⟩:=uq hh;simp only at h;split at h
     case isFalse=>exact h.elim
     rename_i hb;simp only[Zb,beq_iff_eq]at hb;obtain⟨hver,hsz⟩:=hb;obtain⟨kd,idx,ls4,hi,h⟩:=d8 hS h;obtain⟨⟨h0,h1⟩,h⟩:=h;exact y8 ho hS e2 hx hi (av.2 e1) (by rw[e3,hsz]) (by rw[<-hver,e4]) h0 h1 h hk
 |_=>exact nJ ho hS (y7 hT h) hk
def zN (hT:bO P T){o:Oper}{t t':TypeId}{s x:Operand}{ls:List Loc}{ws:List W}(ho:o.op=.call {callee:=.builtin .append,args:= #[s,x],argTypes:= #[t,t']})(h:(qD T aj n o.dst t t' s x).Runs g ls (.ws ws)):eS P n o g ls ws:=by
 refine .inr (.inr (.inr ⟨qD T aj n o.dst t t' s x,?_,h⟩));intro cx G g a w ls ws hn hS h K Q hk;subst hn;unfold qD at h;obtain⟨x0,ls1,_,h⟩:=bF hS h;cases x0 with
 | vn r j ver iv p lo m=>
   simp only at h;refine yU (ls:=ls1) ho hS ?_ hk
   revert h
   unfold tq;rcases hT.el t with e|⟨q,e,e2⟩
   ·simp only[e];exact fun h=>h.elim
   simp only[e,e2];intro h;obtain⟨e0,ti,b⟩:=q;refine cX (fun ls h=>?_) h;refine dT ?_ h;intro a ls h;cases a with
   | vn r j ver iv p lo m=>
     refine dC ?_ h;intro hv ls h
     revert h
     generalize hv.c=c;intro h;cases c with
     | own l=>cases l with
       | s sz es=>
         refine cX (fun ls h=>?_) h;refine dT ?_ h;intro b ls h;refine tj ?_ h;intro es2 src2 ls h;exact h
       |_=>exact h
     |_=>exact h
   |_=>exact h
 |_=>exact qW ho hS (D1 hT h) hk
def Co (hT:bO P T){o:Oper}{t:TypeId}{x y:Operand}{ls:List Loc}{ws:List W}(ho:o.op=.store t x y)(hd:o.dst=none)(h:(ze T aj t x y).Runs g ls (.ws ws)):eS P n o g ls ws:=by
 refine .inr (.inr (.inr ⟨ev y fun
  | .one (.vn _ _ _ _ _ _ _)=>tD mS nD (fun es lo m=>(es.drop lo).take m) jL (mg P) t x y
  |_=>uV P t x y,?_,?_⟩))
 ·intro cx G g a w ls ws hn hS h K Q hk;subst hn;obtain⟨x0,ls1,_,h⟩:=dB hS h;split at h
  ·exact zU ho hd hS h hk
  ·exact tE ho hd hS h hk
 ·unfold ze at h;refine sL ?_ h;intro v ls h;split at h
  ·try simp only
   unfold tD at h ⊢;rcases hT.ty t with e|⟨z,e,e2⟩
   ·rw[e]at h;exact h.elim
   ·rw[e]at h;rw[e2];exact h
  ·rename_i hne
   first
    |exact zf hT h
    | (split
       ·exact absurd rfl (hne _ _ _ _ _ _ _)
       ·exact zf hT h)
def zQ (hT:bO P T){o:Oper}{t:TypeId}{r:Option Operand}{ls:List Loc}{ws:List W}(ho:o.op=.makeMap t r)(h:(nK (lk T.mpL) n o.dst t r).Runs g ls (.ws ws)):eS P n o g ls ws:=by
 refine .inr (.inr (.inr ⟨nK (Bz P) n o.dst t r,?_,?_⟩))
 ·intro cx G g a w ls ws hn hS h K Q hk;subst hn;exact y9 ho hS h hk
 ·unfold nK at h ⊢;rcases hT.mp t with e|⟨x,e,e2⟩
  ·cases r<;>simp[e,Rd.Runs]at h
  ·rw[e]at h;rw[e2];exact h
def Eg (hT:bO P T){o:Oper}{t:TypeId}{x:Operand}{ls:List Loc}{ws:List W}(ho:o.op=.range t x)(h:(uU (lk T.mpL) n o.dst t x).Runs g ls (.ws ws)):eS P n o g ls ws:=by
 refine .inr (.inr (.inr ⟨uU (Bz P) n o.dst t x,?_,?_⟩))
 ·intro cx G g a w ls ws hn hS h K Q hk;subst hn;exact Ck ho hS h hk
 ·unfold uU at h ⊢;rcases hT.mp t with e|⟨y,e,e2⟩
  ·simp[e,Rd.Runs]at h
  ·rw[e]at h;rw[e2];exact h
def D9 {o:Oper}{x:Operand}{ls:List Loc}{ws:List W}(ho:o.op=.entry x)(h:(yY n o.dst x).Runs g ls (.ws ws)):eS P n o g ls ws:=by
 refine .inr (.inr (.inr ⟨yY n o.dst x,?_,h⟩));intro cx G g a w ls ws hn hS h K Q hk;subst hn;exact Cg ho hS h hk
def Ea (hT:bO P T){o:Oper}{t:TypeId}{x:Operand}{f:Nat}{ls:List Loc}{ws:List W}(ho:o.op=.field t x f)(h:(uQ (lk T.cmL) n o.dst t x f).Runs g ls (.ws ws)):eS P n o g ls ws:=by
 refine .inr (.inr (.inr ⟨uQ (Py P) n o.dst t x f,?_,?_⟩))
 ·intro cx G g a w ls ws hn hS h K Q hk;subst hn;exact Ch ho hS h hk
 ·unfold uQ at h ⊢;rcases hT.cm t with e|⟨y,e,e2⟩
  ·rw[e]at h;exact h.elim
  ·rw[e]at h;rw[e2];exact h
def Ci (hT:bO P T){o:Oper}{t:TypeId}{x i:Operand}{k:Bool}{ls:List Loc}{ws:List W}(ho:o.op=.lookup t x i k)(h:(qF mgbI jJ (lk T.mpL) n o.dst t x i k).Runs g ls (.ws ws)):eS P n o g ls ws:=by
 refine .inr (.inr (.inr ⟨qF mgbI jJ (Bz P) n o.dst t x i k,?_,?_⟩))
 ·intro cx G g a w ls ws hn hS h K Q hk;subst hn;exact zP ho hS h hk
 ·unfold qF at h ⊢;rcases hT.mp t with e|⟨y,e,e2⟩
  ·cases k<;>simp[e,Rd.Runs]at h
  ·rw[e]at h;rw[e2];exact h
def Cj (hT:bO P T){o:Oper}{t:TypeId}{m k v:Operand}{ls:List Loc}{ws:List W}(ho:o.op=.mapUpdate t m k v)(hd:o.dst=none)(h:(qG nM (lk T.mpL) t m k v).Runs g ls (.ws ws)):eS P n o g ls ws:=by
 refine .inr (.inr (.inr ⟨qG nM (Bz P) t m k v,?_,?_⟩))
 ·intro cx G g a w ls ws hn hS h K Q hk;subst hn;exact zS ho hd hS h hk
 ·unfold qG at h ⊢;rcases hT.mp t with e|⟨y,e,e2⟩
  ·simp[e,Rd.Runs]at h
  ·rw[e]at h;rw[e2];exact h
def za (hT:bO P T){o:Oper}{t:TypeId}{m k:Operand}{ls:List Loc}{ws:List W}(ho:o.op=.mapEntry t m k)(h:(kY mgbI jJ nM (lk T.mpL) n o.dst t m k).Runs g ls (.ws ws)):eS P n o g ls ws:=by
 refine .inr (.inr (.inr ⟨kY mgbI jJ nM (Bz P) n o.dst t m k,?_,?_⟩))
 ·intro cx G g a w ls ws hn hS h K Q hk;subst hn;exact wn ho hS h hk
 ·unfold kY at h ⊢;rcases hT.mp t with e|⟨y,e,e2⟩
  ·simp[e,Rd.Runs]at h
  ·rw[e]at h;rw[e2];exact h
def uO (hT:bO P T){o:Oper}{t:TypeId}{m s x:Operand}{ls:List Loc}{ws:List W}(ho:o.op=.entryStore t m s x)(hd:o.dst=none)(h:(ie nM (lk T.mpL) t m s x).Runs g ls (.ws ws)):eS P n o g ls ws:=by
 refine .inr (.inr (.inr ⟨ie nM (Bz P) t m s x,?_,?_⟩))
 ·intro cx G g a w ls ws hn hS h K Q hk;subst hn;exact tw ho hd hS h hk
 ·unfold ie at h ⊢;rcases hT.mp t with e|⟨y,e,e2⟩
  ·simp[e,Rd.Runs]at h
  ·rw[e]at h;rw[e2];exact h
def IK {tk:∀ {β:Type},List (Option Nat)->List A->(List (L×Option Nat)->List (Nat×Nat)->Rd β)->Rd β}(hT:bO P T)(htk:∀ {β:Type}, @tk β= @dk β){α:Type}{t:TypeId}{x:Operand}{k' k:DV->List (Nat×Nat)->Rd α}{y:α}{ls:List Loc} 
 (hk:∀ d s ls,(k' d s).Runs g ls y->(k d s).Runs g ls y) (h:(IJ tk (lk T.tyL) t x k').Runs g ls y):(IJ dk (mg P) t x k).Runs g ls y:=by
 unfold IJ at h ⊢;rcases hT.ty t with e|⟨ti,e,e2⟩
 ·rw[e]at h;exact h.elim
 ·rw[e]at h;rw[e2];refine sL ?_ h;intro v ls h;cases v with
  | one a=>
    simp only[htk]at h ⊢;split at h
    ·exact h.elim
    ·rename_i hag;rw[VP hag];refine jd ?_ h;intro lts src ls h;split at h
     ·exact hk _ _ _ h
     ·exact h.elim
  | agg as=>
    simp only[htk]at h ⊢;split at h
    ·rename_i hag;rw[VO hag];refine jd ?_ h;intro lts src ls h;exact hk _ _ _ h
    ·exact h.elim
  |tup rs=>exact h.elim
def yN {tk:∀ {β:Type},List (Option Nat)->List A->(List (L×Option Nat)->List (Nat×Nat)->Rd β)->Rd β}(hT:bO P T)(htk:∀ {β:Type}, @tk β= @dk β){α:Type}:∀ {ts:List TypeId} {xs:List Operand} {k' k:List DV->List (Nat×Nat)->Rd α} {y:α} {ls:List Loc},
 (∀ d s ls,(k' d s).Runs g ls y->(k d s).Runs g ls y)->(yM tk (lk T.tyL) ts xs k').Runs g ls y->(yM dk (mg P) ts xs k).Runs g ls y
 |[],[],k',k,y,ls,hk,h=>hk _ _ _ h
 |[],_::_,k',k,y,ls,hk,h=>h.elim
 |_::_,[],k',k,y,ls,hk,h=>h.elim
 | t::ts,x::xs,k',k,y,ls,hk,h=>by
   simp only[yM]at h ⊢;refine IK hT htk ?_ h;intro d s ls h;exact yN hT htk (fun d s ls h=>hk _ _ _ h) h
def D6 (hT:bO P T){o:Oper}{c:Call}{f:FuncId}{mk:RG}{ls:List Loc}{ws:List W}(e1:o.op=.call c)(e2:c.callee=.value (.func f))(hmk:∀ ds pre res,mk ds=some (pre,res)->pre ()->AU P f ds res) 
 (h:(uN (fun {β}=>jX aj (α:=β)) (lk T.tyL) mS n o.dst (lk T.fnL f).isSome c.argTypes c.args mk (fZ aj)).Runs g ls (.ws ws)):eS P n o g ls ws:=by
 refine .inr (.inr (.inr ⟨uN dk (mg P) mS n o.dst (dx P f) c.argTypes c.args mk dO,?_,?_⟩))
 ·intro cx G g a w ls ws hn hS h K Q hk;subst hn;obtain⟨cal,as,ats⟩:=c;simp only at e2;subst e2;exact Ce e1 hS hmk h hk
 ·unfold uN at h ⊢;rcases hT.fn f with e|⟨_,e,e3⟩
  ·rw[e]at h;exact h.elim
  ·rw[VO e3];rw[VO (by rw[e];rfl)]at h;rw[show fZ aj=dO from by funext d res;exact kX d res]at h;exact yN hT (by intro β;funext sl as k;exact jY sl as k) (fun _ _ _ h=>h) h
def KL (b:Bool):mmO aj b=uv b:=by
 funext vs
 match vs with
 |[]=>rfl
 |[x]=>cases x<;>rfl
 | [x,y]=>
   cases x<;>cases y<;>first|rfl|skip
   rename_i k a k' b';simp only[mmO,uv];by_cases e:k=k'
   ·subst e;simp only[beq_self_eq_true,if_true];rfl
   ·simp[e]
 |x::y::z::vs=>cases x<;>cases y<;>rfl
def Mf (hT:bO P T){ct:Gu}(hct:wR P ct){o:Oper}{ls:List Loc}{ws:List W}(h:(o4 T aj ct n o).Runs g ls (.ws ws)):eS P n o g ls ws:=by
 by_cases hc:∃ c f,o.op=.call c/\c.callee=.value (.func f)
 ·obtain⟨c,f,e1,e2⟩:=hc;unfold o4 at h;simp only[e1,e2]at h;cases hnw:ct.nw f with
  | some mk=>
    simp only[hnw]at h;exact D4 hT e1 e2 (hct.2.2.2.1 f mk hnw) h
  |none=>
  simp only[hnw]at h;cases htk:ct.tk f with
  | some mk=>
    simp only[htk]at h;exact D6 hT e1 e2 (hct.2.2.2.2 f mk htk) h
  |none=>
  simp only[htk]at h;cases hpt:ct.pt f with
  | some mk=>
    simp only[hpt]at h;exact D5 hT (by unfold kg;simp only[e1,e2]) (hct.2.2.1 f mk hpt) h
  |none=>
  simp only[hpt]at h;cases hmu:ct.mu f with
  | none=>
    simp only[hmu]at h;exact Gn hT hct (by unfold kg;simp only[e1,e2]) h
  | some mk=>
    simp only[hmu]at h;exact D3 hT (by unfold kg;simp only[e1,e2]) (hct.2.1 f mk hmu) h
 by_cases hc2:∃ c t,o.op=.call c/\c.callee=.value (.tmp t)
 ·obtain⟨c,t,e1,e2⟩:=hc2;unfold o4 at h;simp only[e1,e2]at h;exact D7 hT hct (by rw[e1];obtain⟨cal,as,ats⟩:=c;simp only at e2;rw[e2]) h
 by_cases hsl:∃ t x lo hi mx,o.op=.slice t x lo hi mx
 ·obtain⟨t,x,lo,hi,mx,e1⟩:=hsl;unfold o4 at h;simp only[e1]at h;exact Cm hT e1 h
 by_cases hst:∃ t x y,o.op=.store t x y
 ·obtain⟨t,x,y,e1⟩:=hst;unfold o4 at h;simp only[e1]at h;split at h
  ·rename_i hd;exact Co hT e1 hd h
  ·exact h.elim
 by_cases hix:∃ t x i,o.op=.indexAddr t x i
 ·obtain⟨t,x,i,e1⟩:=hix;unfold o4 at h;simp only[e1]at h;exact uT hT e1 h
 by_cases hap:∃ s x t t',o.op=.call {callee:=.builtin .append,args:= #[s,x],argTypes:= #[t,t']}
 ·obtain⟨s,x,t,t',e1⟩:=hap;unfold o4 at h;simp only[e1]at h;exact zN hT e1 h
 by_cases hld:∃ t x,o.op=.load t x
 ·obtain⟨t,x,e1⟩:=hld;unfold o4 at h;simp only[e1]at h;exact Ed hT e1 h
 by_cases hmk:∃ t r,o.op=.makeMap t r
 ·obtain⟨t,r,e1⟩:=hmk;unfold o4 at h;simp only[e1]at h;exact zQ hT e1 h
 by_cases hfi:∃ t x f,o.op=.field t x f
 ·obtain⟨t,x,f,e1⟩:=hfi;unfold o4 at h;simp only[e1]at h;exact Ea hT e1 h
 by_cases hrg:∃ t x,o.op=.range t x
 ·obtain⟨t,x,e1⟩:=hrg;unfold o4 at h;simp only[e1]at h;exact Eg hT e1 h
 by_cases hen:∃ x,o.op=.entry x
 ·obtain⟨x,e1⟩:=hen;unfold o4 at h;simp only[e1]at h;exact D9 e1 h
 by_cases hlo:∃ t x i k,o.op=.lookup t x i k
 ·obtain⟨t,x,i,k,e1⟩:=hlo;unfold o4 at h;simp only[e1]at h;exact Ci hT e1 h
 by_cases hme:∃ t m k,o.op=.mapEntry t m k
 ·obtain⟨t,m,k,e1⟩:=hme;unfold o4 at h;simp only[e1]at h;exact za hT e1 h
 by_cases hes:∃ t m s x,o.op=.entryStore t m s x
 ·obtain⟨t,m,s,x,e1⟩:=hes;unfold o4 at h;simp only[e1]at h;split at h
  ·rename_i hd;exact uO hT e1 hd h
  ·exact h.elim
 by_cases hup:∃ t m k v,o.op=.mapUpdate t m k v
 ·obtain⟨t,m,k,v,e1⟩:=hup;unfold o4 at h;simp only[e1]at h;split at h
  ·rename_i hd;exact Cj hT e1 hd h
  ·exact h.elim
 ·refine .inl ⟨?_,?_⟩
  ·unfold kg;split
   ·rename_i c e1;split
    ·rename_i f e2;exact absurd ⟨c,f,e1,e2⟩ hc
    ·rfl
   ·rfl
  ·unfold o4 at h;unfold vop;generalize hop:o.op=op at h hc hc2 hmk hfi hrg hen hlo hme hes hup hsl hst hld hix hap ⊢;cases op with
   |makeMap t r=>exact absurd ⟨t,r,rfl⟩ hmk
   |field t x f=>exact absurd ⟨t,x,f,rfl⟩ hfi
   |range t x=>exact absurd ⟨t,x,rfl⟩ hrg
   |entry x=>exact absurd ⟨x,rfl⟩ hen
   |lookup t x i k=>exact absurd ⟨t,x,i,k,rfl⟩ hlo
   |mapUpdate t m k v=>exact absurd ⟨t,m,k,v,rfl⟩ hup
   |mapEntry t m k=>exact absurd ⟨t,m,k,rfl⟩ hme
   |entryStore t m s x=>exact absurd ⟨t,m,s,x,rfl⟩ hes
   | call c=>
     simp only at h ⊢;cases hcal:c.callee with
     | value x=>
       cases x with
       |func f=>exact absurd ⟨c,f,rfl,hcal⟩ hc
       |tmp t=>exact absurd ⟨c,t,rfl,hcal⟩ hc2
       |_=>simp only[hcal]at h;exact h.elim
     | builtin b=>
       simp only[hcal]at h ⊢;cases b with
       | len=>
         simp only at h ⊢;split at h
         ·rename_i x t e1 e2;simp only[e1,e2];rcases hT.sl t with e|⟨_,e,e3⟩
          ·simp[e,Rd.Runs]at h
          simp only[e,e3,Vm,if_true]at h ⊢;refine dT ?_ h;intro a ls h;exact KC h
         ·exact h.elim
       | append=>
         simp only at h ⊢;split at h
         ·rename_i s x t t' e1 e2;exfalso;refine hap ⟨s,x,t,t',?_⟩;rw[<-hcal, <-CK e1, <-AM e2]
         ·exact h.elim
       |min=>simp only[KL]at h ⊢;exact h
       |max=>simp only[KL]at h ⊢;exact h
       |_=>exact h
     |_=>simp only[hcal]at h;exact h.elim
   |box t x=>exact Md hT h
   |alloc t=>exact Ge hT h
   |build t parts=>exact Gg hT h
   |fieldAddr s x f=>exact yZ hT h
   |buildSlice t len parts=>exact wm hT h
   |load t x=>exact absurd ⟨t,x,rfl⟩ hld
   |store t x y=>exact absurd ⟨t,x,y,rfl⟩ hst
   |indexAddr t x i=>exact absurd ⟨t,x,i,rfl⟩ hix
   |binOp op t x y t'=>exact Ma hT h
   |unOp op t x=>exact Pe h
   |makeSlice t l c=>exact IR hT h
   |slice t x lo hi mx=>exact absurd ⟨t,x,lo,hi,mx,rfl⟩ hsl
   |assign x=>exact h
   |pick c a b=>exact h
   | convert s t x=>
     simp only at h ⊢;refine rz ?_ h;intro _ a ls h;rcases hT.it s with e|⟨k1,e,e3⟩
     ·simp[e,Rd.Runs]at h
     rcases hT.it t with f|⟨k2,f,f3⟩
     ·simp[e,f,Rd.Runs]at h
     simp only[e,e3,f,f3]at h ⊢;exact h
   |_=>exact h
end
end Go.V
namespace Go.V
def Jy (b:Bool)(A B:Unit->Prop):Prop:=(Vn (motive:=fun _=>Unit->Prop) B A b:Unit->Prop) ()
def cN {b:Bool}{A B:Unit->Prop}(h1:b=true->A ())(h2:b=false->B ()):(Vn (motive:=fun _=>Unit->Prop) B A b:Unit->Prop) ():=by
 cases b with
 |true=>exact h1 rfl
 |false=>exact h2 rfl
def Rd.wpU {α:Type}(g:Gm):Rd α->List Loc->(List Loc->α->Prop)->Prop
 | .fail,_,_=>False
 | .ret a,t,K=>K t a
 | .get l k,t,K=>(k (g l)).wpU g (l::t) K
 | .req c k,t,K=>c/\k.wpU g t K
 | .br b k1 k2,t,K=>Jy b (fun _=>k1.wpU g t K) (fun _=>k2.wpU g t K)
 | .peek r j ln k,t,K=>(k (dJ ln (g (.leaf r j)))).wpU g (.hd r j::t) K
def Rd.wpU_runs {α:Type}{g:Gm}:∀ {rd:Rd α} {t:List Loc} {K:List Loc->α->Prop},rd.wpU g t K->∃ ls x t',rd.Runs g ls x/\K t' x/\(∀ l∈ls,l∈t')/\(∀ l∈t,l∈t')
 | .fail,_,_,h=>h.elim
 | .ret b,t,_,h=>⟨[],b,t,⟨rfl,rfl⟩,h,by simp,fun _ h=>h⟩
 | .get l k,t,_,h=>by
   obtain⟨ls,x,t',h1,h2,h3,h4⟩:=Rd.wpU_runs (rd:=k (g l)) h;refine⟨l::ls,x,t',⟨ls,rfl,h1⟩,h2,?_,fun y hy=>h4 y (by simp[hy])⟩;intro y hy;rcases Zl.1 hy with rfl|hy;exact h4 _ (by simp);exact h3 _ hy
 | .req c k,t,_,h=>by
   obtain⟨ls,x,t',h1,h2,h3⟩:=Rd.wpU_runs (rd:=k) h.2;exact⟨ls,x,t',⟨h.1,h1⟩,h2,h3⟩
 | .br b k1 k2,t,_,h=>by
   cases b with
   |true=>obtain⟨ls,x,t',h1,h2⟩:=Rd.wpU_runs (rd:=k1) h;exact⟨ls,x,t',.inl ⟨rfl,h1⟩,h2⟩
   |false=>obtain⟨ls,x,t',h1,h2⟩:=Rd.wpU_runs (rd:=k2) h;exact⟨ls,x,t',.inr ⟨rfl,h1⟩,h2⟩
 | .peek r j ln k,t,K,h=>by
   obtain⟨ls,x,t',h1,h2,h3,h4⟩:=Rd.wpU_runs (rd:=k (dJ ln (g (.leaf r j)))) h;refine⟨.hd r j::ls,x,t',⟨ls,rfl,h1⟩,h2,?_,fun y hy=>h4 y (by simp[hy])⟩;intro y hy;rcases Zl.1 hy with rfl|hy;exact h4 _ (by simp);exact h3 _ hy
def Az:Ln:=⟨List.length,fun _ _ h=>h⟩
def J8 {ln:Ln}{x y:Option Val}(h:dJ Az x=dJ Az y):dJ ln x=dJ ln y:=by
 unfold dJ at h ⊢
 repeat' split at h
 all_goals first|(cases h;done)|rfl|(simp only[Ya,XW]at h;obtain⟨h1,h2,h3⟩:=h;simp only[*];rw[ln.ok _ _ h3])|(simp only[*])
def same (g g':Gm):Loc->Prop
 | .hd r j=>g' (.hd r j)=g (.hd r j)/\dJ Az (g' (.leaf r j))=dJ Az (g (.leaf r j))
 |l=>g' l=g l
def same.get {g g':Gm}{l:Loc}(h:same g g' l):g' l=g l:=by
 cases l<;>first|exact h|exact h.1
def Rd.Runs_congr {α:Type}{g g':Gm}:∀ {rd:Rd α} {ls:List Loc} {x:α},rd.Runs g ls x->(∀ l∈ls,same g g' l)->rd.Runs g' ls x
 | .fail,_,_,h,_=>h
 | .ret b,_,_,h,_=>h
 | .get l k,_,_,h,hg=>by
   obtain⟨ls',e,h⟩:=h;subst e;refine⟨ls',rfl,?_⟩;rw[(hg l (by simp)).get];exact Rd.Runs_congr h (fun y hy=>hg y (by simp[hy]))
 | .req c k,_,_,h,hg=>⟨h.1,Rd.Runs_congr h.2 hg⟩
 | .br b k1 k2,_,_,h,hg=>by
   rcases h with⟨e,h⟩|⟨e,h⟩;exact .inl ⟨e,Rd.Runs_congr h hg⟩;exact .inr ⟨e,Rd.Runs_congr h hg⟩
 | .peek r j ln k,_,_,h,hg=>by
   obtain⟨ls',e,h⟩:=h;subst e;refine⟨ls',rfl,?_⟩;have e:=hg (.hd r j) (by simp);rw[J8 (ln:=ln) e.2];exact Rd.Runs_congr h (fun y hy=>hg y (by simp[hy]))
def HJ (n:Nat)(o:Oper)(ws:List W):Prop:=
 match o.dst with
 |some d=>d<n/\ws=[.reg d (.one (.v undef))]
 |none=>ws=[]
def AS (P:Program)(n:Nat)(all:Array Oper)(o:Oper)(g:Gm)(t:List Loc)(ws:List W):Prop:=
 ∃ ls b,(xU all o).Runs g ls b/\(∀ l∈ls,l∈t)/\
  ((b=true/\∃ ls2,eS P n o g ls2 ws/\∀ l∈ls2,l∈t)\/(b=false/\HJ n o ws))
def eS.congr {P:Program}{n:Nat}{o:Oper}{g g':Gm}{ls:List Loc}{ws:List W}(h:eS P n o g ls ws)(hg:∀ l∈ls,same g g' l):eS P n o g' ls ws:=by
 rcases h with⟨h1,h2⟩|⟨f,ts,args,ds,mk,res,h1,h2,h3,h4⟩|⟨f,ts,args,mk,h1,h2,h3⟩|⟨rd,h1,h2⟩;exact .inl ⟨h1,Rd.Runs_congr h2 hg⟩;exact .inr (.inl ⟨f,ts,args,ds,mk,res,h1,Rd.Runs_congr h2 hg,h3,h4⟩);exact .inr (.inr (.inl ⟨f,ts,args,mk,h1,h2,Rd.Runs_congr h3 hg⟩));exact .inr (.inr (.inr ⟨rd,h1,Rd.Runs_congr h2 hg⟩))
def AS.congr {P:Program}{n:Nat}{all:Array Oper}{o:Oper}{g g':Gm}{t:List Loc}{ws:List W}(h:AS P n all o g t ws)(hg:∀ l∈t,same g g' l):AS P n all o g' t ws:=by
 obtain⟨ls,b,h1,h2,h3⟩:=h;refine⟨ls,b,Rd.Runs_congr h1 (fun l hl=>hg l (h2 l hl)),h2,?_⟩;rcases h3 with⟨e,ls2,h4,h5⟩|h3;exact .inl ⟨e,ls2,h4.congr (fun l hl=>hg l (h5 l hl)),h5⟩;exact .inr h3
section
variable {P: Program} {cx: Cx} {a: Act} {w: World}
def eS.sound {o:Oper}{g:Gm}{ls:List Loc}{ws:List W}(h:eS P cx.n o g ls ws)(hS:eG cx g a w){K:Act->World->Prop}{Q:Exit->Act->World->Prop} 
 (hk:∀ a' w',eG cx (aV g ws) a' w'->K a' w'):o.wp P a w K Q:=by
 obtain⟨G,hS⟩:=hS;rcases h with⟨_,h2⟩|⟨f,ts,args,ds,mk,res,h1,h2,h3,rfl⟩|⟨f,ts,args,mk,h1,h2,h3⟩|⟨rd,h1,h2⟩;exact IT hS h2 hk;exact D8 (pp h1) hS h2 h3 hk;exact Cb (pp h1) hS h3 h2 hk;exact h1 cx G g a w _ _ rfl hS h2 K Q hk
def AS.sound {all:Array Oper}{o:Oper}{g:Gm}{t:List Loc}{ws:List W}(h:AS P cx.n all o g t ws)(hS:eG cx g a w){K:Act->World->Prop}{Q:Exit->Act->World->Prop} 
 (hk:∀ a' w',eG cx (aV g ws) a' w'->K a' w'):
 if Region.wanted o (yielded all a.tmps)then o.wp P a w K Q\/(o.asks P a w/\LetsOut Q)else K (a.put o.dst undef) w:=by
 obtain⟨ls,b,h1,_,h3⟩:=h;obtain⟨G,hG⟩:=id hS;have hw:=Bm hG h1;rcases h3 with⟨rfl,ls2,h4,_⟩|⟨rfl,h3⟩
 ·rw[VO hw];exact .inl (h4.sound hS hk)
 ·rw[VP (by rw[hw];simp)];unfold HJ at h3;cases hd:o.dst with
  | none=>
    simp only[hd]at h3;subst h3;exact hk _ _ (by simpa[ZI,aV]using hS)
  | some d=>
    simp only[hd]at h3;obtain⟨hlt,rfl⟩:=h3;refine hk _ _ ⟨G,?_⟩;exact hG.put hlt (by simp[cV,io])
end
inductive WK where
 |reg (d:Nat)
 |leaf (r j:Nat)
 |root (r:Nat)
 |gap (r j:Nat)
def keyOf:W->WK
 | .reg d _=>.reg d
 | .leaf r j _=>.leaf r j
 | .root r _ _=>.root r
 | .gap r j _=>.gap r j
def WK.hits:WK->Loc->Bool
 | .reg d,.reg d'=>d.beq d'
 | .leaf r j,.leaf r' j'=>r.beq r'&&j.beq j'
 | .gap r j,.leaf r' j'=>r.beq r'&&j.beq j'
 | .root r,.leaf r' _=>r.beq r'
 | .root r,.meta_ r'=>r.beq r'
 |_,_=>false
def WK.hitR:WK->Loc->Bool
 | .leaf r j,.hd r' j'=>r.beq r'&&j.beq j'
 | .root r,.hd r' _=>r.beq r'
 |k,l=>k.hits l
def cT (ws:List W)(l:Loc):Bool:=ws.any fun x=>(keyOf x).hits l
def fG (ws:List W)(l:Loc):Bool:=ws.any fun x=>(keyOf x).hitR l
def jk {g:Gm}{x:W}{l:Loc}(h:(keyOf x).hits l=false):x.app g l=g l:=by
 cases x<;>cases l<;>simp only[keyOf,WK.hits,W.app]at h ⊢ <;>first|rfl|(rw[VP];intro e;cases e;simp at h)|(rw[VP];intro e;subst e;simp at h)
def Gy {g g':Gm}{x:W}{l:Loc}(h:(keyOf x).hits l=true):x.app g l=x.app g' l:=by
 cases x<;>cases l<;>simp_all [keyOf,WK.hits,W.app]
def nP {l:Loc}:∀ {ws:List W} {g:Gm},cT ws l=false->aV g ws l=g l
 |[],_,_=>rfl
 | x::ws,g,h=>by
   simp only[cT,Xr,Xs]at h;simp only[aV];rw[nP (ws:=ws) h.2,jk h.1]
def AW {l:Loc}:∀ {ws:List W} {g g':Gm},g l=g' l->aV g ws l=aV g' ws l
 |[],_,_,h=>h
 | x::ws,g,g',h=>by
   simp only[aV];refine AW (ws:=ws) ?_;cases hx:(keyOf x).hits l with
   |true=>exact Gy hx
   |false=>rw[jk hx,jk hx,h]
def rT {l:Loc}:∀ {ws:List W} {g g':Gm},cT ws l=true->aV g ws l=aV g' ws l
 |[],_,_,h=>by simp[cT]at h
 | x::ws,g,g',h=>by
   simp only[cT,Xr,Z5]at h;simp only[aV];cases hx:(keyOf x).hits l with
   |true=>exact AW (Gy hx)
   | false=>
     rw[hx]at h;exact rT (h.resolve_left (by simp))
def oF (g:Gm)(ws:List W):Prop:=∀ r j,fG ws (.hd r j)=false->dJ Az (aV g ws (.leaf r j))=dJ Az (g (.leaf r j))
def Da (O:zW)(g:Gm):List W->Prop->Prop
 |[],K=>K
 | .gap r j x::ws,K=>match x.c with
   | .own (.s sz es)=>match g (.leaf r j)with
     | some (.h y)=>match y.c with
       | .own (.s sz' es')=>match x.ver.beq y.ver&&sz.beq sz' with
         |true=>O.pr (fun _=>es.length=es'.length)/\Da O g ws K
         |false=>False
       |_=>False
     |_=>False
   |_=>False
 |_::ws,K=>Da O g ws K
def xO {g:Gm}{K:Prop}:∀ {ws:List W},Da aj g ws K->K
 |[],h=>h
 | .reg _ _::ws,h=>xO (ws:=ws) h
 | .leaf _ _ _::ws,h=>xO (ws:=ws) h
 | .root _ _ _::ws,h=>xO (ws:=ws) h
 | .gap r j x::ws,h=>by
   simp only[Da]at h
   repeat' split at h
   all_goals first|exact h.elim|exact xO h.2
def sP {g:Gm}{K:Prop}{r j:Nat}:∀ {ws:List W} {g':Gm},Da aj g ws K->dJ Az (g' (.leaf r j))=dJ Az (g (.leaf r j))->fG ws (.hd r j)=false->dJ Az (aV g' ws (.leaf r j))=dJ Az (g (.leaf r j))
 |[],_,_,h,_=>h
 | .reg d x::ws,g',h,e,ht=>by
   simp only[fG,Xr,Xs]at ht;refine sP (ws:=ws) h ?_ ht.2;rw[jk (by rfl)];exact e
 | .leaf r' j' x::ws,g',h,e,ht=>by
   simp only[fG,Xr,Xs]at ht;refine sP (ws:=ws) h ?_ ht.2;rw[jk (by simpa[keyOf,WK.hits,WK.hitR]using ht.1)];exact e
 | .root r' b hs::ws,g',h,e,ht=>by
   simp only[fG,Xr,Xs]at ht;refine sP (ws:=ws) h ?_ ht.2;rw[jk (by simpa[keyOf,WK.hits,WK.hitR]using ht.1)];exact e
 | .gap r' j' x::ws,g',h,e,ht=>by
   simp only[fG,Xr,Xs]at ht;have h':=h;simp only[Da]at h'
   repeat' split at h'
   all_goals first|exact h'.elim|skip
   rename_i sz es hx _ y hy _ sz' es' hc _ hb;refine sP (ws:=ws) h'.2 ?_ ht.2;by_cases q:r=r'/\j=j'
   ·obtain⟨rfl,rfl⟩:=q;have h3:es.length=es'.length:=h'.1;simp only[Zb]at hb;have b1:=Z6 hb.1;have b2:=Z6 hb.2;simp only[W.app,if_true,dJ,hx,hy,hc,Az,b1,b2,h3]
   ·rw[jk (by
     simp only[keyOf,WK.hits];cases c1:ZL r' r with
     |false=>rfl
     | true=>
       cases c2:ZL j' j with
       |false=>rfl
       |true=>exact absurd ⟨(Z6 c1).symm,(Z6 c2).symm⟩ q)]
    exact e
def oF.of {g:Gm}{ws:List W}{K:Prop}(h:Da aj g ws K):oF g ws:=fun _ _ ht=>sP h rfl ht
def oF.reg {g:Gm}{d:Nat}{x:R}:oF g [.reg d x]:=oF.of (K:=True) trivial
def oF.nil {g:Gm}:oF g []:=oF.of (K:=True) trivial
abbrev Tr :=List (List Loc×List WK)
def E1 (all:Array Oper)(o:Oper)(σ:VS)(K:VS->List Loc->Bool->Prop):Prop:=
 match o.guard with
 |none=>K σ [] true
 | some (j,want)=>match all[j]? with
   | some o'=>match o'.dst with
     | some d=>match get σ (.reg d)with
       |some (.r (.one (.v (.bool b))))=>Jy b (fun _=>K (.reg d (.k true)::σ) [.reg d] (true==want)) (fun _=>K (.reg d (.k false)::σ) [.reg d] (false==want))
       |some (.r (.one (.v (.tuple _))))=>K σ [.reg d] false
       |_=>False
     |none=>False
   |none=>False
section
variable (T: vK) (O: zW) (ct: Gu) (n: Nat)
def AQ (all:Array Oper):List Oper->VS->Tr->(VS->Tr->Prop)->Prop
 |[],σ,acc,K=>K σ acc
 | o::rest,σ,acc,K=>E1 all o σ fun σ t b=>match b with
   | true=>(o4 T O ct n o).wpU (get σ) t fun t out=>match out with
     | .ws ws=>Da O (get σ) ws (AQ all rest (push σ ws) ((t,ws.map keyOf)::acc) K)
     | .call _ _ _=>False
   | false=>match o.dst with
     |some d=>if d<n then AQ all rest (.reg d (.one (.v undef))::σ) ((t,[.reg d])::acc) K else False
     |none=>AQ all rest σ ((t,[])::acc) K
end
inductive IX (P:Program)(n:Nat)(all:Array Oper):List Oper->Gm->List (List Loc×List W)->Gm->Prop where
 |nil (g:Gm):IX P n all [] g [] g
 |cons {o:Oper} {rest:List Oper} {g g':Gm} {t:List Loc} {ws:List W} {xs:List (List Loc×List W)}:AS P n all o g t ws->oF g ws->IX P n all rest (aV g ws) xs g'->IX P n all (o::rest) g ((t,ws)::xs) g'
def De {σ:VS}{d:Nat}{x:R}(h:get σ (.reg d)=some (.r x)):get (.reg d x::σ)=get σ:=by
 funext l
 simp only[get,W.app];split
 ·rename_i e;rw[e,h]
 ·rfl
def Df {all:Array Oper}{o:Oper}{σ:VS}{K:VS->List Loc->Bool->Prop}(h:E1 all o σ K):
 ∃ σ1 t b,get σ1=get σ/\(xU all o).Runs (get σ) t b/\K σ1 t b:=by
 unfold E1 at h;unfold xU;cases hg:o.guard with
 |none=>simp only[hg]at h;exact⟨σ,[],true,rfl,⟨rfl,rfl⟩,h⟩
 | some jw=>
   obtain⟨j,want⟩:=jw;simp only[hg]at h ⊢;cases ho:all[j]? with
   |none=>simp[ho]at h
   | some o'=>
     simp only[ho,YK]at h ⊢;cases hd:o'.dst with
     |none=>simp[hd]at h
     | some d=>
       simp only[hd]at h ⊢;cases hx:get σ (.reg d)with
       |none=>simp[hx]at h
       | some v=>
         cases v with
         |h x=>simp[hx]at h
         |m a b=>simp[hx]at h
         | r x=>cases x with
           |agg as=>simp[hx]at h
           |tup rs=>simp[hx]at h
           | one a=>cases a with
             | v y=>cases y with
               | bool b=>
                 simp only[hx]at h;cases b with
                 |true=>exact⟨_,_,_,De hx,by simp[Ct,rd,Rd.Runs,hx],h⟩
                 |false=>exact⟨_,_,_,De hx,by simp[Ct,rd,Rd.Runs,hx],h⟩
               | tuple vs=>
                 simp only[hx]at h;exact⟨σ,_,_,rfl,by simp[Ct,rd,Rd.Runs,hx],h⟩
               |_=>simp[hx]at h
             |_=>simp[hx]at h
def qH {P:Program}{T:vK}(hT:bO P T){ct:Gu}(hct:wR P ct){n:Nat}{all:Array Oper}:∀ (ops:List Oper) (σ:VS) (acc:Tr) (K:VS->Tr->Prop),AQ T aj ct n all ops σ acc K->
 ∃ xs σ',IX P n all ops (get σ) xs (get σ')/\K σ' ((xs.map fun x=>(x.1,x.2.map keyOf)).reverse++acc)
 |[],σ,acc,K,h=>⟨[],σ,.nil _,h⟩
 | o::rest,σ,acc,K,h=>by
   simp only[AQ]at h;obtain⟨σ1,t,b,e1,h1,h2⟩:=Df h;cases b with
   | true=>
     simp only at h2;obtain⟨ls2,out,t2,k1,k2,k3,k4⟩:=Rd.wpU_runs h2;cases out with
     |call f ds mk=>exact k2.elim
     | ws ws=>
       simp only at k2;have k5:=oF.of k2;obtain⟨xs,σ',m1,m2⟩:=qH hT hct rest _ _ _ (xO k2);rw[xP]at m1;rw[e1]at m1 k1 k5;refine⟨(t2,ws)::xs,σ',.cons ⟨t,true,h1,fun l hl=>k4 l hl,.inl ⟨rfl,ls2,Mf hT hct k1,k3⟩⟩ k5 m1,?_⟩
       simpa using m2
   | false=>
     simp only at h2;cases hd:o.dst with
     | none=>
       simp only[hd]at h2;obtain⟨xs,σ',m1,m2⟩:=qH hT hct rest _ _ _ h2;rw[e1]at m1;refine⟨(t,[])::xs,σ',.cons ⟨t,false,h1,fun l hl=>hl,.inr ⟨rfl,by simp[HJ,hd]⟩⟩ .nil m1,?_⟩
       simpa using m2
     | some d=>
       simp only[hd]at h2;split at h2
       ·rename_i hlt;obtain⟨xs,σ',m1,m2⟩:=qH hT hct rest _ _ _ h2;have e2:get (W.reg d (.one (.v undef))::σ1)=aV (get σ) [W.reg d (.one (.v undef))]:=by
         simp only[get,aV,e1]
        rw[e2]at m1;refine⟨(t,[.reg d (.one (.v undef))])::xs,σ',.cons ⟨t,false,h1,fun l hl=>hl,.inr ⟨rfl,by simp[HJ,hd,hlt]⟩⟩ .reg m1,?_⟩
        simpa[keyOf]using m2
       ·exact h2.elim
def IX.text {P:Program}{cx:Cx}{all:Array Oper}{Q:Exit->Act->World->Prop}:∀ {ops:List Oper} {g g':Gm} {xs:List (List Loc×List W)} {a:Act} {w:World},IX P cx.n all ops g xs g'->eG cx g a w->
 (∀ a' w',eG cx g' a' w'->Q .normal a' w')->wpList P all Q ops a w
 |_,_,_,_,a,w,.nil g,hS,hk=>hk a w hS
 | _,_,_,_,a,w,.cons he _ hr,hS,hk=>by
   simp only[wpList];exact he.sound hS (fun a' w' hs=>hr.text hs hk)
end Go.V
namespace Go.V
def WK.clash:WK->WK->Bool
 | .reg d,.reg d'=>d.beq d'
 | .leaf r j,.leaf r' j'=>r.beq r'&&j.beq j'
 | .root r,.leaf r' _=>r.beq r'
 | .leaf r _,.root r'=>r.beq r'
 | .root r,.root r'=>r.beq r'
 | .gap r j,.gap r' j'=>r.beq r'&&j.beq j'
 | .gap r j,.leaf r' j'=>r.beq r'&&j.beq j'
 | .leaf r j,.gap r' j'=>r.beq r'&&j.beq j'
 | .root r,.gap r' _=>r.beq r'
 | .gap r _,.root r'=>r.beq r'
 |_,_=>false
def CP {k k':WK}{l:Loc}(h:k.hits l=true)(h':k'.hits l=true):k.clash k'=true:=by
 cases k<;>cases k'<;>cases l<;>simp_all [WK.hits,WK.clash]
def sel (bW:Nat->List W)(p:Nat->Bool)(m:Nat):List W:=((Zo m).filter p).flatMap bW
def qh (bW:Nat->List W)(l:Loc):∀ (is:List Nat) (g:Gm),aV g (is.flatMap bW) l=aV g ((is.filter fun i=>cT (bW i) l).flatMap bW) l
 |[],g=>rfl
 | i::is,g=>by
   simp only[Y9,List.filter_cons,cE];cases h:cT (bW i) l with
   |true=>simp only[if_true,Y9,cE];exact qh bW l is _
   | false=>
     simp only[ZT,if_false];rw[<-qh bW l is g];exact AW (nP h)
def qB {bW:Nat->List W}{p q:Nat->Bool}{m:Nat}{l:Loc}{g:Gm}(h:∀ i,i<m->cT (bW i) l=true->p i=q i):aV g (sel bW p m) l=aV g (sel bW q m) l:=by
 unfold sel;rw[qh,qh bW l ((Zo m).filter q)];have e:((Zo m).filter p).filter (fun i=>cT (bW i) l)=((Zo m).filter q).filter (fun i=>cT (bW i) l):=by
  rw[WE,WE];refine XI ?_;intro i hi;rw[Yf]at hi;cases ht:cT (bW i) l with
  |true=>simp[h i hi ht]
  |false=>simp
 rw[e]
def LK {bW:Nat->List W}{q:Nat->Bool}{m j:Nat}{l:Loc}{g g':Gm}(hj:j<m)(hq:q j=true)(ht:cT (bW j) l=true)(h:∀ i,j<i->i<m->cT (bW i) l=true->q i=false):
 aV g (sel bW q m) l=aV g' (bW j) l:=by
 have e:aV g (sel bW q m) l=aV g (sel bW (fun i=>q i&&decide (i<=j)) m) l:=by
  refine qB ?_;intro i hi hti;rcases Z8 j i with c|c
  ·rw[h i c hi hti];rfl
  ·simp[c]
 rw[e];have hs:(Zo m).filter (fun i=>q i&&decide (i<=j))=((Zo j).filter q)++[j]:=by
  have:Zo m=Zo j++[j]++(Zo (m- (j+1))).map (fun x=>(j+1)+x):=by
   have e1:Zo (j+1+(m- (j+1)))=Zo (j+1)++(Zo (m- (j+1))).map (fun x=>(j+1)+x):=Wq;rw[show j+1+(m- (j+1))=m from by omega]at e1;rw[e1,WF]
  rw[this,X0,X0];have e2:(List.map (fun x=>j+1+x) (Zo (m- (j+1)))).filter (fun i=>q i&&decide (i<=j))=[]:=by
   rw[X1];intro a ha;obtain⟨x,_,rfl⟩:=ZW.1 ha;simp;intro _;omega
  have e3:(Zo j).filter (fun i=>q i&&decide (i<=j))=(Zo j).filter q:=by
   refine XI ?_;intro i hi;rw[Yf]at hi;simp[Nat.le_of_lt hi]
  rw[e2,e3];simp[hq]
 unfold sel;rw[hs,X2,cE];simp only[Y9,List.flatMap_nil,Z4];exact rT ht
def DK {bW:Nat->List W}{p:Nat->Bool}{m:Nat}{g:Gm}:aV g (sel bW p (m+1))=aV (aV g (sel bW p m)) (if p m=true then bW m else[]):=by
 unfold sel;rw[WF,X0,X2,cE];cases h:p m<;>simp[h]
def DX {ws:List W}{r j:Nat}(h:fG ws (.hd r j)=true):cT ws (.leaf r j)=true:=by
 unfold fG at h;unfold cT;rw[YW]at h ⊢;obtain⟨x,h1,h2⟩:=h;refine⟨x,h1,?_⟩;cases x<;>simp_all [keyOf,WK.hitR,WK.hits]
def F7 {bW:Nat->List W}{g:Gm}{r j:Nat}{p:Nat->Bool}:∀ {m:Nat},
 (∀ k,k<m->p k=true->cT (bW k) (.leaf r j)=true->∀ i,i<k->cT (bW i) (.leaf r j)=true->p i=true)->
 (∀ k,k<m->fG (bW k) (.hd r j)=false->dJ Az (aV (aV g (sel bW (fun _=>true) k)) (bW k) (.leaf r j))=dJ Az (aV g (sel bW (fun _=>true) k) (.leaf r j)))->
 dJ Az (aV g (sel bW p m) (.leaf r j))=dJ Az (aV g (sel bW (fun i=>p i&&fG (bW i) (.hd r j)) m) (.leaf r j))
 |0,_,_=>rfl
 | m+1,hc,hg=>by
   have ih:=F7 (m:=m) (fun k hk=>hc k Uc) (fun k hk=>hg k Uc);rw[DK,DK];cases hp:p m with
   |false=>simpa[hp,aV]using ih
   | true=>
     cases ht:fG (bW m) (.hd r j)with
     | true=>
       simp only[hp,ht,Bool.and_self,if_true];rw[rT (DX ht)]
     | false=>
       simp only[hp,ht,Bool.and_false,if_true,ZT,if_false];show _=dJ Az (aV g (sel bW (fun i=>p i&&fG (bW i) (.hd r j)) m) (.leaf r j));rw[<-ih];cases hl:cT (bW m) (.leaf r j)with
       |false=>rw[nP hl]
       | true=>
         have e1:aV (aV g (sel bW p m)) (bW m) (.leaf r j)=aV (aV g (sel bW (fun _=>true) m)) (bW m) (.leaf r j):=rT hl;rw[e1,hg m Uc ht];rw[qB (q:=fun _=>true) (p:=p) (fun i hi hti=>hc m Uc hp hl i hi hti)]
def LJ {bW:Nat->List W}{g:Gm}{r j:Nat}{p q:Nat->Bool}{m:Nat} 
 (hp:∀ k,k<m->p k=true->cT (bW k) (.leaf r j)=true->∀ i,i<k->cT (bW i) (.leaf r j)=true->p i=true)
 (hq:∀ k,k<m->q k=true->cT (bW k) (.leaf r j)=true->∀ i,i<k->cT (bW i) (.leaf r j)=true->q i=true)
 (hg:∀ k,k<m->fG (bW k) (.hd r j)=false->dJ Az (aV (aV g (sel bW (fun _=>true) k)) (bW k) (.leaf r j))=dJ Az (aV g (sel bW (fun _=>true) k) (.leaf r j)))
 (h:∀ k,k<m->fG (bW k) (.hd r j)=true->p k=q k):
 dJ Az (aV g (sel bW p m) (.leaf r j))=dJ Az (aV g (sel bW q m) (.leaf r j)):=by
 rw[F7 hp hg,F7 hq hg]
 congr 2
 unfold sel
 congr 1
 refine XI ?_;intro i hi;cases ht:fG (bW i) (.hd r j)with
 |false=>simp
 |true=>simp[h i (Yf.1 hi) ht]
def qp (o:Oper):List Nat:=o.after.toList.filterMap fun e=>if Vo .any e then some e.on else none
def x9 (ms:List Nat):List Nat->Nat
 |[]=>0
 |p::ps=>(1<<<p)|||(ms.getD p 0|||x9 ms ps)
def Dq:List (List Nat)->List Nat->List Nat
 |[],acc=>acc
 |ds::rest,acc=>Dq rest (acc++[x9 acc ds])
def ox (x y:List Loc×List WK):Bool:=
 x.2.any fun k=>y.1.any (fun l=>k.hitR l)||y.2.any (fun k'=>k.clash k')
def nC (x y:List Loc×List WK):Bool:=y.2.any fun k=>x.1.any fun l=>k.hitR l
def Ho (mask:Nat)(y:List Loc×List WK):Nat->Tr->Bool
 |_,[]=>true
 |i,x::xs=>(mask.testBit i|| !(ox x y||nC x y))&&Ho mask y (i+1) xs
def yj:List Nat->Tr->Tr->Bool
 |m::ms,xs,y::ys=>Ho m y 0 xs&&yj ms (xs++[y]) ys
 |[],_,[]=>true
 |_,_,_=>false
def BC:Nat->List (List Nat)->Bool
 |_,[]=>true
 |i,ds::rest=>ds.all (fun p=>p.blt i)&&BC (i+1) rest
def bz (ops:Array Oper)(tr:Tr):Bool:=
 let ps:=ops.toList.map qp
 BC 0 ps&&yj (Dq ps []) [] tr
end Go.V
namespace Go.V
def IX.at {P:Program}{n:Nat}{all:Array Oper}:∀ {ops:List Oper} {g g':Gm} {xs:List (List Loc×List W)},IX P n all ops g xs g'->
 xs.length=ops.length/\g'=aV g (xs.flatMap (·.2))/\∀ j o,ops[j]?=some o->∃ t ws,xs[j]?=some (t,ws)/\AS P n all o (aV g ((xs.take j).flatMap (·.2))) t ws/\oF (aV g ((xs.take j).flatMap (·.2))) ws
 |_,_,_,_,.nil g=>⟨rfl,rfl,fun j o h=>by simp at h⟩
 | _,_,_,_,.cons (t:=t) (ws:=ws) he hg hr=>by
   obtain⟨h1,h2,h3⟩:=IX.at hr;refine⟨by simp[h1],by rw[h2];simp[cE],?_⟩;intro j o h;cases j with
   |zero=>simp at h;subst h;exact⟨t,ws,rfl,by simpa[aV]using he,by simpa[aV]using hg⟩
   | succ j=>
     simp at h;obtain⟨t',ws',e1,e2,e3⟩:=h3 j o h;exact⟨t',ws',by simpa using e1,by simpa[cE]using e2,by simpa[cE]using e3⟩
def uI (xs:List (List Loc×List W)):∀ j,j<=xs.length->(xs.take j).flatMap (·.2)=(Zo j).flatMap fun i=>(xs.getD i ([],[])).2
 |0,_=>rfl
 | j+1,h=>by
   rw[List.take_succ,WF,X2,X2,uI xs j Uc]
   congr 1
   rw[Zt Uc];simp[Zt (show j<xs.length by omega)]
def wg {m j:Nat}(h:j<=m):(Zo m).filter (fun i=>decide (i<j))=Zo j:=by
 have e1:Zo (j+(m-j))=Zo j++(Zo (m-j)).map (fun x=>j+x):=Wq;rw[show j+(m-j)=m from by omega]at e1;rw[e1,X0];have e2:((Zo (m-j)).map (fun x=>j+x)).filter (fun i=>decide (i<j))=[]:=by
  rw[X1];intro a ha;obtain⟨x,_,rfl⟩:=ZW.1 ha;simp
 rw[e2,Z4];exact WG.2 (fun a ha=>by simpa using ha)
def ya {S:Nat->Prop}{pr:Nat->List Nat}(hcl:∀ k,S k->∀ p∈pr k,S p):∀ (rest:List (List Nat)) (acc:List Nat),
 (∀ k ds,rest[k]?=some ds->pr (acc.length+k)=ds)->
 (∀ j,j<acc.length->∀ i,(acc.getD j 0).testBit i=true->(∀ p∈pr j,S p)->S i)->
 ∀ j,j<(Dq rest acc).length->∀ i,((Dq rest acc).getD j 0).testBit i=true->(∀ p∈pr j,S p)->S i
 |[],acc,_,h=>h
 | ds::rest,acc,hp,h=>by
   simp only[Dq];refine ya hcl rest _ ?_ ?_
   ·intro k ds' hk;have:=hp (k+1) ds' (by simpa using hk);simp only[Zf,Zi,Zk];rw[<-this];congr 1;omega
   ·intro j hj i hi hS;simp only[Zf,Zi,Zk]at hj;rcases Z8 j acc.length with c|c
    ·refine h j c i ?_ hS;rw[Zm,ZQ c]at hi;rw[Zm];exact hi
    ·have hj':j=acc.length:=by omega
     subst hj';have e0:=hp 0 ds rfl;rw[Yl]at e0;rw[Zm,ZO (Ze _)]at hi;simp only[Nat.sub_self,List.getElem?_cons_zero,Z0]at hi;rw[e0]at hS;have key:∀ (ps:List Nat),(∀ p∈ps,S p)->(x9 acc ps).testBit i=true->S i:=by
      intro ps
      induction ps with
      |nil=>intro _ hb;simp[x9]at hb
      | cons p ps ih=>
        intro hps hb;simp only[x9,Nat.testBit_or,Z5]at hb;rcases hb with hb|hb|hb
        ·rw[Nat.one_shiftLeft,Nat.testBit_two_pow]at hb;simp at hb;subst hb;exact hps _ (by simp)
        ·rcases Z8 p acc.length with c2|c2;exact h p c2 i hb (hcl p (hps p (by simp)))
         ·rw[Zm,Z9 c2]at hb;simp at hb
        ·exact ih (fun q hq=>hps q (by simp[hq])) hb
     exact key ds hS hi
def yi {mask:Nat}{y:List Loc×List WK}:∀ {xs:Tr} {i0:Nat},Ho mask y i0 xs=true->∀ i x,xs[i]?=some x->mask.testBit (i0+i)=true\/(ox x y=false/\nC x y=false)
 |[],_,_,i,x,hx=>by simp at hx
 | x0::xs,i0,h,i,x,hx=>by
   simp only[Ho,Zb,Z5,Yp,Xs]at h;cases i with
   |zero=>simp at hx;subst hx;exact h.1
   | succ i=>
     simp at hx;have:=yi h.2 i x hx;rw[show i0+1+i=i0+(i+1)from by omega]at this;exact this
def vA:∀ {ms:List Nat} {xs ys:Tr},yj ms xs ys=true->∀ j y,ys[j]?=some y->∃ m,ms[j]?=some m/\∀ i x,(xs++ys)[i]?=some x->i<xs.length+j->m.testBit i=true\/(ox x y=false/\nC x y=false)
 |[],_,[],_,j,y,hy=>by simp at hy
 |_::_,_,[],_,j,y,hy=>by simp at hy
 |[],_,_::_,h,_,_,_=>by simp[yj]at h
 | m::ms,xs,y0::ys,h,j,y,hy=>by
   simp only[yj,Zb]at h;cases j with
   | zero=>
     simp at hy;subst hy;refine⟨m,rfl,?_⟩;intro i x hx hi;rw[ZQ Uc]at hx;have:=yi h.1 i x hx
     rwa [ZK]at this
   | succ j=>
     simp at hy;obtain⟨m',e1,e2⟩:=vA h.2 j y hy;refine⟨m',by simpa using e1,?_⟩;intro i x hx hi;refine e2 i x (by simpa using hx) (by simp;omega)
def vz:∀ {pss:List (List Nat)} {i0:Nat},BC i0 pss=true->∀ i ps,pss[i]?=some ps->∀ p∈ps,p<i0+i
 |[],_,_,i,ps,h=>by simp at h
 | q::pss,i0,h,i,ps,hi=>by
   simp only[BC,Zb,List.all_eq_true]at h;cases i with
   | zero=>
     simp at hi;subst hi;intro p hp;have:=h.1 p hp;have h2:p+1<=i0:=by simpa[WH]using this
     omega
   | succ i=>
     simp at hi;intro p hp;have:=vz h.2 i ps hi p hp;omega
end Go.V
namespace Go.V
def nL (listed:Array Bool)(i:Nat):Bool:=listed.getD i false
def sS {listed:Array Bool}{i k:Nat}(hi:i<listed.size):nL (listed.setIfInBounds i true) k=(nL listed k||decide (k=i)):=by
 unfold nL;by_cases e:k=i
 ·subst e;simp[hi]
 ·rw[getD_set_ne false (Ne.symm e)];simp[e]
def pQ (ops:Array Oper)(k:Nat):List Nat:=match ops[k]? with
 |some o=>qp o
 |none=>[]
def vq {o:Oper}{p:Nat}:p∈qp o↔∃ e∈o.after,Vo .any e=true/\e.on=p:=by
 unfold qp;simp only[List.mem_filterMap,Array.mem_toList_iff]
 constructor
 ·rintro⟨e,he,h⟩;split at h
  ·rename_i hb;cases h;exact⟨e,he,hb,rfl⟩
  ·cases h
 ·rintro⟨e,he,hb,rfl⟩;exact⟨e,he,by simp[hb]⟩
def yR {ws:List W}{l:Loc}:fG ws l=true↔∃ k∈ws.map keyOf,k.hitR l=true:=by
 unfold fG;simp only[YW,ZW]
 constructor
 ·rintro⟨x,h1,h2⟩;exact⟨_,⟨x,h1,rfl⟩,h2⟩
 ·rintro⟨k,⟨x,h1,rfl⟩,h2⟩;exact⟨x,h1,h2⟩
def GW {k:WK}{l:Loc}(h:k.hits l=true):k.hitR l=true:=by cases k<;>cases l<;>simp_all [WK.hits,WK.hitR]
def jZ {ws:List W}{l:Loc}:cT ws l=true↔∃ k∈ws.map keyOf,k.hits l=true:=by
 unfold cT;simp only[YW,ZW]
 constructor
 ·rintro⟨x,h1,h2⟩;exact⟨_,⟨x,h1,rfl⟩,h2⟩
 ·rintro⟨k,⟨x,h1,rfl⟩,h2⟩;exact⟨x,h1,h2⟩
section
variable {P: Program} {cx: Cx} {ops: Array Oper} {Q: Exit -> Act -> World -> Prop} {g0 gm: Gm} {xs: List (List Loc × List W)}
def FJ {tr:Tr}(hok:bz ops tr=true){j p:Nat}(hp:p∈pQ ops j):p<j:=by
 simp only[bz,Zb]at hok;unfold pQ at hp;cases ho:ops[j]? with
 |none=>simp[ho]at hp
 | some o=>
   simp only[ho]at hp;have:=vz hok.1 j (qp o) (by simp[ho]) p hp;omega
def oq {tr:Tr}(hok:bz ops tr=true){S:Nat->Prop}(hcl:∀ k,S k->∀ p∈pQ ops k,S p){i j:Nat}{x y:List Loc×List WK}(hij:i<j)(hx:tr[i]?=some x)(hy:tr[j]?=some y) 
 (hS:∀ p∈pQ ops j,S p) (hbad:ox x y=true\/nC x y=true):S i:=by
 simp only[bz,Zb]at hok;obtain⟨m,e1,e2⟩:=vA hok.2 j y hy;have e3:=e2 i x (by simpa using hx) (by simpa using hij);rcases e3 with e3|⟨e3,e4⟩
 ·refine ya (S:=S) (pr:=pQ ops) hcl (ops.toList.map qp) [] ?_ ?_ j (ZB.1 e1).1 i ?_ hS
  ·intro k ds hk;simp only[List.getElem?_map,ZC]at hk;obtain⟨o,ho,rfl⟩:=hk;rw[ZY]at ho;simp[pQ,ho]
  ·intro j hj;simp at hj
  ·rw[Zm,e1];exact e3
 ·rcases hbad with h|h
  ·rw[e3]at h;cases h
  ·rw[e4]at h;cases h
def EU (hrun:IX P cx.n ops ops.toList g0 xs gm)(hok:bz ops (xs.map fun x=>(x.1,x.2.map keyOf))=true)(hQ:∀ a' w',eG cx gm a' w'->Q .normal a' w'):
 ∀ (fuel:Nat) (listed:Array Bool) (a:Act) (w:World),listed.size=ops.size->((Zo ops.size).filter fun i=> !nL listed i).length<=fuel->
  (∀ k,nL listed k=true->∀ p∈pQ ops k,nL listed p=true)->
  eG cx (aV g0 (sel (fun i=>(xs.getD i ([],[])).2) (nL listed) ops.size)) a w->wpAny P .any ops Q fuel listed a w:=by
 obtain⟨hlen,hgm,hat⟩:=IX.at hrun;have hlen':xs.length=ops.size:=by simpa using hlen
 let bW:Nat->List W:=fun i=>(xs.getD i ([],[])).2
 have hall:gm=aV g0 (sel bW (fun _=>true) ops.size):=by
  have:=uI xs xs.length (Ze _);rw[List.take_length]at this;rw[hgm,this,hlen'];unfold sel;rw[WG.2 (fun _ _=>rfl)]
 have hex:∀ j,j<ops.size->∃ o t,ops[j]?=some o/\xs[j]?=some (t,bW j)/\AS P cx.n ops o (aV g0 (sel bW (fun i=>decide (i<j)) ops.size)) t (bW j)/\oF (aV g0 (sel bW (fun _=>true) j)) (bW j):=by
  intro j hj;have ho:ops.toList[j]?=some ops[j]:=by simp[hj]
  obtain⟨t,ws,e1,e2,e4⟩:=hat j _ ho;have hw:bW j=ws:=by simp[bW,Zm,e1]
  refine⟨ops[j],t,by simp[hj],by rw[hw];exact e1,?_⟩;rw[hw];have e3:=uI xs j Uc;unfold sel;rw[wg Uc];rw[e3]at e2 e4;refine⟨e2,?_⟩;rw[WG.2 (fun _ _=>rfl)];exact e4
 have full:∀ (listed:Array Bool) (a:Act) (w:World),(∀ j,j<ops.size->nL listed j=true)->eG cx (aV g0 (sel bW (nL listed) ops.size)) a w->Q .normal a w:=by
  intro listed a w hl hS;refine hQ a w ?_;rw[hall];have:sel bW (nL listed) ops.size=sel bW (fun _=>true) ops.size:=by
   unfold sel
   congr 1
   exact XI (fun i hi=>hl i (Yf.1 hi))
  rw[<-this];exact hS
 have noready:∀ (listed:Array Bool),listed.size=ops.size->Vp .any ops listed=[]->∀ j,j<ops.size->nL listed j=true:=by
  intro listed hsz hr j
  induction j using Nat.strongRecOn with
  | _ j ih=>
    intro hj;cases hl:nL listed j with
    |true=>rfl
    | false=>
      exfalso;have:j∈Vp .any ops listed:=by
       rw[mem_ready];refine⟨?_,ops[j],by simp[hj],?_⟩
       ·unfold nL at hl;simp only[Yt]at hl ⊢;rw[Xq Uc]at hl ⊢
        simpa using hl
       ·intro e he hb;have hp:e.on∈pQ ops j:=by
         simp only[pQ,hj,Xq];exact vq.2 ⟨e,he,hb,rfl⟩
        have hlt:=FJ hok hp;exact ih e.on hlt Uc
      rw[hr]at this;cases this
 intro fuel
 induction fuel with
 | zero=>
   intro listed a w hsz hf hcl hS;have hnil:(Zo ops.size).filter (fun i=> !nL listed i)=[]:=Yv Uc;have hl:∀ j,j<ops.size->nL listed j=true:=by
    intro j hj;have:=X1.1 hnil j (Yf.2 hj)
    simpa using this
   refine⟨?_,full listed a w hl hS⟩;rw[List.eq_nil_iff_forall_not_mem];intro j hj;obtain⟨h1,o,ho,_⟩:=mem_ready.1 hj;have hjlt:=(ZE.1 ho).1;have:=hl j hjlt;unfold nL at this;simp only[Yt]at h1 this;rw[Xq Uc]at h1 this;simp only[Z0]at h1 this;rw[h1]at this;cases this
 | succ fuel ih=>
   intro listed a w hsz hf hcl hS;refine⟨fun hr=>full listed a w (noready listed hsz hr) hS,?_⟩;intro i hi;obtain⟨h1,o,ho,hpre⟩:=mem_ready.1 hi;have hilt:=(ZE.1 ho).1;have hni:nL listed i=false:=by
    unfold nL;simp only[Yt]at h1 ⊢;rw[Xq Uc]at h1 ⊢
    simpa using h1
   have hpi:∀ p∈pQ ops i,nL listed p=true:=by
    intro p hp;simp only[pQ,ho]at hp;obtain⟨e,he,hb,rfl⟩:=vq.1 hp;exact hpre e he hb
   obtain⟨o',t,ho',hxs,hexec,_⟩:=hex i hilt;rw[ho]at ho';cases ho';have htr:∀ k t',xs[k]?=some (t',bW k)->(xs.map fun x=>(x.1,x.2.map keyOf))[k]?=some (t',(bW k).map keyOf):=by
    intro k t' h;simp[h]
   have later:∀ k,i<k->k<ops.size->∀ l,cT (bW k) l=true->(cT (bW i) l=true\/l∈t)->nL listed k=false:=by
    intro k hik hk l hl hc;cases hlk:nL listed k with
    |false=>rfl
    | true=>
      exfalso;obtain⟨o2,t2,ho2,hxs2,_⟩:=hex k hk;have:=oq hok (S:=fun k=>nL listed k=true) hcl hik (htr i t hxs) (htr k t2 hxs2) (hcl k hlk) (by
       obtain⟨q,hq1,hq2⟩:=jZ.1 hl;rcases hc with hc|hc
       ·obtain⟨q',hq3,hq4⟩:=jZ.1 hc;refine .inl ?_;simp only[ox,YW,Z5];exact⟨q',hq3,.inr ⟨q,hq1,CP hq4 hq2⟩⟩
       ·refine .inr ?_;simp only[nC,YW];exact⟨q,hq1,l,hc,GW hq2⟩)
      rw[hni]at this;cases this
   have hexec':AS P cx.n ops o (aV g0 (sel bW (nL listed) ops.size)) t (bW i):=by
    refine hexec.congr ?_;intro l hl;have agree:∀ k,k<ops.size->fG (bW k) l=true->nL listed k=decide (k<i):=by
     intro k hk htk;obtain⟨q,hq1,hq2⟩:=yR.1 htk;obtain⟨o2,t2,ho2,hxs2,_⟩:=hex k hk;rcases Nat.lt_trichotomy k i with c|c|c
     ·simp only[c,decide_true];refine oq hok (S:=fun k=>nL listed k=true) hcl c (htr k t2 hxs2) (htr i t hxs) hpi (.inl ?_);simp only[ox,YW,Z5];exact⟨q,hq1,.inl ⟨l,hl,hq2⟩⟩
     ·subst c;simp[hni]
     ·have:nL listed k=false:=by
       cases hlk:nL listed k with
       |false=>rfl
       | true=>
         exfalso;have:=oq hok (S:=fun k=>nL listed k=true) hcl c (htr i t hxs) (htr k t2 hxs2) (hcl k hlk) (by
          refine .inr ?_;simp only[nC,YW];exact⟨q,hq1,l,hl,hq2⟩)
         rw[hni]at this;cases this
      rw[this];simp;omega
    have plain:aV g0 (sel bW (nL listed) ops.size) l=aV g0 (sel bW (fun i_1=>decide (i_1<i)) ops.size) l:=by
     refine qB ?_;intro k hk htk;obtain⟨q,hq1,hq2⟩:=jZ.1 htk;exact agree k hk (yR.2 ⟨q,hq1,GW hq2⟩)
    cases l with
    | hd r j=>
      refine⟨plain,LJ ?_ ?_ ?_ agree⟩
      ·intro k hk hlk htk k' hk' htk';obtain⟨o2,t2,ho2,hxs2,_⟩:=hex k hk;obtain⟨o3,t3,ho3,hxs3,_⟩:=hex k' Uc;obtain⟨q,hq1,hq2⟩:=jZ.1 htk;obtain⟨q',hq3,hq4⟩:=jZ.1 htk';refine oq hok (S:=fun k=>nL listed k=true) hcl hk' (htr k' t3 hxs3) (htr k t2 hxs2) (hcl k hlk) (.inl ?_);simp only[ox,YW,Z5];exact⟨q',hq3,.inr ⟨q,hq1,CP hq4 hq2⟩⟩
      ·intro k hk hlk _ k' hk' _;simp at hlk ⊢;omega
      ·intro k hk ht;obtain⟨_,_,_,_,_,hgo⟩:=hex k hk;exact hgo r j ht
    |_=>exact plain
   show wpOp P ops Q i _ a w;unfold wpOp;simp only[ho];refine hexec'.sound hS ?_;intro a' w' hs';refine ih _ a' w' (by simp[hsz]) ?_ ?_ ?_
   ·have e:(Zo ops.size).filter (fun k=> !nL (listed.setIfInBounds i true) k)=((Zo ops.size).filter (fun k=> !nL listed k)).filter (fun k=>decide (k≠i)):=by
     rw[WE];refine XI ?_;intro k _;rw[sS Uc];by_cases hki:k=i<;>simp[hki]
    have hlt:(((Zo ops.size).filter (fun k=> !nL listed k)).filter (fun k=>decide (k≠i))).length<((Zo ops.size).filter (fun k=> !nL listed k)).length:=by
     rw[List.length_filter_lt_length_iff_exists];exact⟨i,List.mem_filter.2 ⟨Yf.2 hilt,by simp[hni]⟩,by simp⟩
    rw[e];omega
   ·intro k hk p hp;rw[sS Uc]at hk ⊢;rw[Z5]at hk;rcases hk with hk|hk
    ·rw[hcl k hk p hp];rfl
    ·simp at hk;subst hk;rw[hpi p hp];rfl
   ·have e:aV (aV g0 (sel bW (nL listed) ops.size)) (bW i)=aV g0 (sel bW (nL (listed.setIfInBounds i true)) ops.size):=by
     funext l
     cases ht:cT (bW i) l with
     | true=>
       symm
       refine LK hilt ?_ ht ?_
       ·rw[sS Uc];simp
       ·intro k hik hk htk;rw[sS Uc,later k hik hk l htk (.inl ht)];simp;omega
     | false=>
       rw[nP ht];refine qB ?_;intro k hk htk;rw[sS Uc];have:k≠i:=fun e=>by rw[e,ht]at htk;cases htk
       simp[this]
    rw[<-e];exact hs'
def DD {id:Nat}{a:Act}{w:World}(hm:P.follows .mixedOrders=true)(hrun:IX P cx.n ops ops.toList g0 xs gm)(hok:bz ops (xs.map fun x=>(x.1,x.2.map keyOf))=true) 
 (hQ:∀ a' w',eG cx gm a' w'->Q .normal a' w') (hS:∀ a w,eG cx g0 a w->eG cx g0 a {w with drawn:=w.drawn+1}) (hs:eG cx g0 a w):(Vq id ops true).wp P Q a w:=by
 refine wp_region_any hm ?_;refine EU hrun hok hQ ops.size _ a _ (by simp) ?_ ?_ ?_;exact Nat.le_trans (List.length_filter_le _ _) (by simp)
 ·intro k hk;exfalso;unfold nL at hk;simp only[Yt,Array.getElem?_replicate]at hk;split at hk<;>simp at hk
 ·have:sel (fun i=>(xs.getD i ([],[])).2) (nL (YQ ops.size false)) ops.size=[]:=by
   unfold sel;have:(Zo ops.size).filter (nL (YQ ops.size false))=[]:=by
    rw[X1];intro k hk;have hk:=Yf.1 hk;simp[nL,hk]
   rw[this];rfl
  rw[this];exact hS a w hs
end
end Go.V
namespace Go.V
def K5:List W->Nat->Option R
 |[],_=>none
 | .reg d x::ws,d'=>if d.beq d' then some x else K5 ws d'
 |_::ws,d'=>K5 ws d'
def FL:List W->Nat->Nat->Option Hv
 |[],_,_=>none
 | .leaf r j x::ws,r',j'=>if r.beq r'&&j.beq j' then some x else FL ws r' j'
 |_::ws,r',j'=>FL ws r' j'
def sR (g:Gm)(ov:List W):List Nat->VS
 |[]=>[]
 | d::ds=>match K5 ov d with
   |some x=>.reg d x::sR g ov ds
   | none=>match g (.reg d)with
     |some (.r x)=>.reg d x::sR g ov ds
     |_=>sR g ov ds
def oa (g:Gm)(ov:List W)(r:Nat):Nat->Nat->List Hv
 |_,0=>[]
 | j,m+1=>match FL ov r j with
   |some h=>h::oa g ov r (j+1) m
   | none=>match g (.leaf r j)with
     |some (.h h)=>h::oa g ov r (j+1) m
     |_=>⟨0,0,none,.gone⟩::oa g ov r (j+1) m
def ut (g:Gm)(ov:List W):List Nat->VS
 |[]=>[]
 | r::rs=>match g (.meta_ r)with
   |some (.m k box)=>.root r box (oa g ov r 0 k)::ut g ov rs
   |_=>ut g ov rs
def Aw (σ:VS)(regs roots:List Nat)(ov:List W):VS:=sR (get σ) ov regs++ut (get σ) ov roots
def ny (g whole:Gm)(r j:Nat)(p:Hv->Hv->Prop):Prop:=
 match g (.leaf r j)with
 | some (.h h')=>match whole (.leaf r j)with
   |some (.h h)=>p h' h
   |_=>False
 |_=>False
def sD (whole:Gm):List Eu->Prop
 |[]=>True
 | .pt r _::cs=>(match whole (.meta_ r)with
   |some (.m _ true)=>True
   |_=>False)/\sD whole cs
 | .rp _ _::cs=>sD whole cs
def SG (g whole:Gm):A->A->Prop
 | .vw r j v' lo n,x=>match x with
   | .vw r2 j2 v lo2 n2=>(ZL r r2&&ZL j j2)=true/\lo=lo2/\n=n2/\ny g whole r j fun h' h=>h'.ver=v'/\h.ver=v
   |_=>False
 | .pn r j v' iv' p,x=>match x with
   | .pn r2 j2 v iv p2=>(ZL r r2&&ZL j j2)=true/\p=p2/\ny g whole r j fun h' h=>h'.ver=v'/\h.ver=v/\h'.iv=iv'/\h.iv=iv
   |_=>False
 | .vn r j v' iv' p lo n,x=>match x with
   | .vn r2 j2 v iv p2 lo2 n2=>(ZL r r2&&ZL j j2)=true/\p=p2/\lo=lo2/\n=n2/\ny g whole r j fun h' h=>h'.ver=v'/\h.ver=v/\h'.iv=iv'/\h.iv=iv
   |_=>False
 | .pt r j,x=>x=.pt r j/\match whole (.meta_ r)with
   |some (.m _ true)=>True
   |_=>False
 | .v y,x=>x=.v y
 | .nl,x=>x=.nl
 | .ro sz es,x=>x=.ro sz es
 | .rp rec j,x=>x=.rp rec j
 | .fn f caps,x=>x=.fn f caps/\sD whole caps
 | .mv r j v',x=>match x with
   | .mv r2 j2 v=>(ZL r r2&&ZL j j2)=true/\ny g whole r j fun h' h=>h'.ver=v'/\h.ver=v
   |_=>False
 | .st _ _ _ _ _,_=>False
 | .it es vs,x=>x=.it es vs
 | .un,x=>x=.un
def JN (g whole:Gm):List A->List A->Prop
 |[],[]=>True
 |y::ys,x::xs=>SG g whole y x/\JN g whole ys xs
 |_,_=>False
mutual
def uh (g whole:Gm):R->R->Prop
 | .one y,x=>match x with
   | .one x=>SG g whole y x
   |_=>False
 | .agg ys,x=>match x with
   | .agg xs=>JN g whole ys xs
   |_=>False
 | .tup rs,x=>match x with
   | .tup qs=>Aj g whole rs qs
   |_=>False
def Aj (g whole:Gm):List R->List R->Prop
 | [],xs=>match xs with
   |[]=>True
   |_=>False
 | r::rs,xs=>match xs with
   |q::qs=>uh g whole r q/\Aj g whole rs qs
   |_=>False
end
def kW (g:Gm)(r:Nat):Nat->List Hv->Prop
 |_,[]=>True
 | j,h::hs=>(match g (.leaf r j)with
   | some (.h h')=>h'.c=h.c/\match h.org with
     |none=>True
     |some i=>h'.org=some i
   |_=>False)/\kW g r (j+1) hs
def kN (g whole:Gm):VS->Prop
 |[]=>True
 | .reg d x::τ=>(match g (.reg d)with
   |some (.r y)=>uh g whole y x
   |_=>False)/\kN g whole τ
 | .root r box hs::τ=>(match g (.meta_ r)with
   |some (.m k b)=>k=hs.length/\b=box
   |_=>False)/\kW g r 0 hs/\kN g whole τ
 | .leaf _ _ _::_=>False
 | .gap _ _ _::_=>False
def Ku (g:Gm):List Nat->Prop
 |[]=>True
 | r::rs=>(match g (.meta_ r)with
   |some (.m _ true)=>True
   |_=>False)/\Ku g rs
def LeO (an:List Nat)(σ τ:VS):Prop:=kN (get σ) (get τ) τ/\Ku (get τ) an
def Ax {g:Gm}:∀ {an:List Nat},Ku g an->∀ r∈an,∃ k,g (.meta_ r)=some (.m k true)
 |[],_,r,h=>by cases h
 | a::an,h,r,hr=>by
   rcases Zl.1 hr with rfl|hr
   ·obtain⟨h,_⟩:=h;split at h
    ·rename_i k e;exact⟨k,e⟩
    ·exact h.elim
   ·exact Ax h.2 r hr
section
variable {P: Program} {cx: Cx}
def kN.regs {g whole:Gm}:∀ {τ:VS},kN g whole τ->∀ d x,get τ (.reg d)=some x->∃ r y,x=.r r/\g (.reg d)=some (.r y)/\uh g whole y r
 |[],_,d,x,h=>by simp[get]at h
 | .reg d' y::τ,hs,d,x,h=>by
   obtain⟨h1,h3⟩:=hs;simp only[get,W.app]at h;split at h
   ·rename_i e;cases e;cases h;split at h1
    ·rename_i y' e';exact⟨_,_,rfl,e',h1⟩
    ·exact h1.elim
   ·exact kN.regs h3 d x h
 | .root r box hs::τ,hsub,d,x,h=>by
   simp only[get,W.app]at h;exact kN.regs hsub.2.2 d x h
 | .leaf _ _ _::_,hs,_,_,_=>hs.elim
 | .gap _ _ _::_,hs,_,_,_=>hs.elim
def kN.metas {g whole:Gm}:∀ {τ:VS},kN g whole τ->∀ r x,get τ (.meta_ r)=some x->(∃ k box,x=.m k box)/\g (.meta_ r)=some x
 |[],_,r,x,h=>by simp[get]at h
 | .reg d' y::τ,hs,r,x,h=>by
   simp only[get,W.app]at h;rw[VP (by simp)]at h;exact kN.metas hs.2 r x h
 | .root r' box hs::τ,hsub,r,x,h=>by
   obtain⟨h1,h2,h3⟩:=hsub;simp only[get,W.app]at h;split at h
   ·rename_i e;subst e;cases h;split at h1
    ·rename_i k b e';obtain⟨rfl,rfl⟩:=h1;exact⟨⟨_,_,rfl⟩,e'⟩
    ·exact h1.elim
   ·exact kN.metas h3 r x h
 | .leaf _ _ _::_,hs,_,_,_=>hs.elim
 | .gap _ _ _::_,hs,_,_,_=>hs.elim
def kW.at {g:Gm}{r:Nat}:∀ {hs:List Hv} {j i:Nat} {x:Hv},kW g r j hs->hs[i]?=some x->∃ h',g (.leaf r (j+i))=some (.h h')/\h'.c=x.c/\(∀ o,x.org=some o->h'.org=some o)
 |[],_,_,_,_,h=>by simp at h
 | y::hs,j,i,x,hle,h=>by
   obtain⟨h1,h2⟩:=hle;cases i with
   | zero=>
     simp at h;subst h;split at h1
     ·rename_i h' e;refine⟨h',e,h1.1,fun o ho=>?_⟩;have:=h1.2;rw[ho]at this;exact this
     ·exact h1.elim
   | succ i=>
     simp at h;obtain⟨h',e,e2⟩:=kW.at h2 h;exact⟨h',by rw[<-e];congr 2;omega,e2⟩
def kN.leaves {g whole:Gm}:∀ {τ:VS},kN g whole τ->∀ r j x,get τ (.leaf r j)=some x->∃ h h' k box,x=.h h/\g (.leaf r j)=some (.h h')/\(h'.c=h.c/\∀ o,h.org=some o->h'.org=some o)/\get τ (.meta_ r)=some (.m k box)/\j<k
 |[],_,r,j,x,h=>by simp[get]at h
 | .reg d' y::τ,hs,r,j,x,h=>by
   simp only[get,W.app]at h ⊢;rw[VP (by simp)]at h;rw[VP (by simp)];exact kN.leaves hs.2 r j x h
 | .root r' box hs::τ,hsub,r,j,x,h=>by
   simp only[get,W.app]at h ⊢;split at h
   ·rename_i e;subst e;rw[VO rfl];simp only[ZC]at h;obtain⟨y,e1,rfl⟩:=h;obtain⟨h',e2,e3⟩:=kW.at hsub.2.1 e1;rw[ZK]at e2;exact⟨y,h',_,_,rfl,e2,e3,rfl,(ZB.1 e1).1⟩
   ·rename_i e;rw[VP e];exact kN.leaves hsub.2.2 r j x h
 | .leaf _ _ _::_,hs,_,_,_,_=>hs.elim
 | .gap _ _ _::_,hs,_,_,_,_=>hs.elim
def LeO.sim {an:List Nat}(ha:∀ r x,cx.aloc r=some x->r∈an){σ τ:VS}(h:LeO an σ τ){a:Act}{w:World}(hS:eG cx (get σ) a w):eG cx (get τ) a w:=by
 obtain⟨G,hS⟩:=hS;obtain⟨h,hk⟩:=h
 open Classical in
 let G':Gh:={G with loc:=fun r=>if∃ k,get τ (.meta_ r)=some (.m k true)then G.loc r else none}
 have pair:∀ r j (p:Hv->Hv->Prop),ny (get σ) (get τ) r j p->∀ h0,gl (get σ) r j=some h0->∃ h1,gl (get τ) r j=some h1/\p h0 h1/\h1.c=h0.c:=by
  intro r j p hs h0 e;rw[av]at e;unfold ny at hs;rw[e]at hs;simp only at hs;split at hs
  ·rename_i h1 e1;obtain⟨y,h',_,_,q1,q2,q3,_⟩:=kN.leaves h r j _ e1;cases q1;rw[e]at q2;cases q2;exact⟨h1,av.2 e1,hs,q3.1.symm⟩
  ·exact hs.elim
 have beq:∀ {r r2 j j2:Nat},(ZL r r2&&ZL j j2)=true->r=r2/\j=j2:=by
  intro r r2 j j2 e;simp only[Zb]at e;exact⟨Z6 e.1,Z6 e.2⟩
 have hA:∀ y x v,SG (get σ) (get τ) y x->io (gl (get σ)) G w y v->io (gl (get τ)) G' w x v:=by
  intro y x v hc hx;cases y with
  | pt r j=>
    obtain⟨rfl,hc⟩:=hc;obtain⟨b,off,e1,e2⟩:=hx;refine⟨b,off,?_,e2⟩;split at hc
    ·rename_i k e;simp only[G'];rw[VO ⟨k,e⟩];exact e1
    ·exact hc.elim
  |st _ _ _ _ _=>exact hc.elim
  | mv r j v'=>
    cases x with
    | mv r2 j2 ver=>
      obtain⟨e,hp⟩:=hc;obtain⟨rfl,rfl⟩:=beq e;obtain⟨h0,e1,e2,e3⟩:=hx;obtain⟨h1,f1,⟨f2,f3⟩,f4⟩:=pair r j _ hp h0 e1;exact⟨h1,f1,Uc,fun _ kb es qc=>e3 f2 kb es (by rw[<-f4];exact qc)⟩
    |_=>exact hc.elim
  | vw r j v' lo n=>
    cases x with
    | vw r2 j2 ver lo2 n2=>
      obtain⟨e,rfl,rfl,hp⟩:=hc;obtain⟨rfl,rfl⟩:=beq e;obtain⟨h0,e1,e2,e3⟩:=hx;obtain⟨h1,f1,⟨f2,f3⟩,f4⟩:=pair r j _ hp h0 e1;exact⟨h1,f1,Uc,fun _ sz es qc=>e3 f2 sz es (by rw[<-f4];exact qc)⟩
    |_=>exact hc.elim
  | pn r j v' iv' p=>
    cases x with
    | pn r2 j2 ver iv p2=>
      obtain⟨e,rfl,hp⟩:=hc;obtain⟨rfl,rfl⟩:=beq e;obtain⟨h0,e1,e2,e3,e4,e5⟩:=hx;obtain⟨h1,f1,⟨f2,f3,f5,f6⟩,f4⟩:=pair r j _ hp h0 e1;exact⟨h1,f1,Uc,Uc,e4,fun _ l qc=>e5 (by simp[xS,f2,f5]) l (by rw[<-f4];exact qc)⟩
    |_=>exact hc.elim
  | vn r j v' iv' p lo n=>
    cases x with
    | vn r2 j2 ver iv p2 lo2 n2=>
      obtain⟨e,rfl,rfl,rfl,hp⟩:=hc;obtain⟨rfl,rfl⟩:=beq e;obtain⟨h0,e1,e2,e3,e4,e5⟩:=hx;obtain⟨h1,f1,⟨f2,f3,f5,f6⟩,f4⟩:=pair r j _ hp h0 e1;exact⟨h1,f1,Uc,Uc,e4,fun _ l rec o sz es qc=>e5 (by simp[hP,f2,f5]) l rec o sz es (by rw[<-f4];exact qc)⟩
    |_=>exact hc.elim
  |v y=>have hc:x=_:=hc;subst hc;exact hx
  |nl=>have hc:x=_:=hc;subst hc;exact hx
  |ro sz es=>have hc:x=_:=hc;subst hc;exact hx
  |rp rec j=>have hc:x=_:=hc;subst hc;exact hx
  |un=>have hc:x=_:=hc;subst hc;trivial
  |it es vs=>have hc:x=_:=hc;subst hc;exact hx
  | fn f caps=>
    obtain⟨rfl,hc⟩:=hc;obtain⟨ps,e,hx⟩:=hx;refine⟨ps,e,?_⟩;have key:∀ (caps:List Eu) (ps:List Value),sD (get τ) caps->dZ G w caps ps->dZ G' w caps ps:=by
     intro caps
     induction caps with
     |nil=>intro ps _ h;exact h
     | cons c cs ih=>
       intro ps hk hx;obtain⟨v,vs',e,h1,h2⟩:=hx;cases c with
       | pt r j=>
         obtain⟨k1,k2⟩:=hk;refine⟨v,vs',e,?_,ih _ k2 h2⟩;obtain⟨b,off,e1,e2⟩:=h1;refine⟨b,off,?_,e2⟩;split at k1
         ·rename_i k e;simp only[G'];rw[VO ⟨k,e⟩];exact e1
         ·exact k1.elim
       |rp rec j=>exact⟨v,vs',e,h1,ih _ hk h2⟩
    exact key caps ps hc hx
 have hAs:∀ ys xs vs,JN (get σ) (get τ) ys xs->ce (gl (get σ)) G w ys vs->ce (gl (get τ)) G' w xs vs:=by
  intro ys
  induction ys with
  | nil=>intro xs vs hc hx;cases xs with
    |nil=>exact hx
    |cons _ _=>exact hc.elim
  | cons y ys ih=>
    intro xs vs hc hx;cases xs with
    |nil=>exact hc.elim
    | cons x xs=>
      obtain⟨v,vs',e,h1,h2⟩:=hx;exact⟨v,vs',e,hA y x v hc.1 h1,ih xs vs' hc.2 h2⟩
 have hR:∀ y x v,uh (get σ) (get τ) y x->cV (gl (get σ)) G w y v->cV (gl (get τ)) G' w x v:=by
  intro y
  induction y using R.rec (motive_2:=fun ys=>∀ xs vs,Aj (get σ) (get τ) ys xs->ji (gl (get σ)) G w ys vs->ji (gl (get τ)) G' w xs vs)with
  | one y=>
    intro x v hc hx;cases x with
    |one x=>simp only[cV,uh]at*;exact hA y x v hc hx
    |agg _=>simp[uh]at hc
    |tup _=>simp[uh]at hc
  | agg ys=>
    intro x v hc hx;cases x with
    |agg xs=>simp only[cV,uh]at*;obtain⟨vs,e,hx⟩:=hx;exact⟨vs,e,hAs ys xs vs hc hx⟩
    |one _=>simp[uh]at hc
    |tup _=>simp[uh]at hc
  | tup ys ih=>
    intro x v hc hx;cases x with
    |tup xs=>simp only[cV,uh]at*;obtain⟨vs,e,hx⟩:=hx;exact⟨vs,e,ih xs vs hc hx⟩
    |one _=>simp[uh]at hc
    |agg _=>simp[uh]at hc
  | nil=>
    rename_i xs vs hc hx;cases xs with
    |nil=>exact hx
    |cons _ _=>simp[Aj]at hc
  | cons r rs ih1 ih2=>
    rename_i xs vs hc hx;cases xs with
    |nil=>simp[Aj]at hc
    | cons q qs=>
      simp only[ji,Aj]at*;obtain⟨v,vs',e,h1,h2⟩:=hx;exact⟨v,vs',e,ih1 q v hc.1 h1,ih2 qs vs' hc.2 h2⟩
 refine⟨G',hS.defers,hS.tm,?_,?_,?_,?_,?_,hS.lt,hS.frame,hS.frow,?_,?_,hS.afr,?_,?_,hS.roX⟩
 ·intro d x hx;obtain⟨r,y,rfl,he,hc⟩:=kN.regs h d x hx;obtain⟨e1,r',e2,e3⟩:=hS.reg d _ he;cases e2;exact⟨e1,r,rfl,hR y r _ hc e3⟩
 ·intro r k hk;obtain⟨b,off,cur,ty,f1,f2⟩:=hS.boxes r k (kN.metas h r _ hk).2;exact⟨b,off,cur,ty,by simp only[G'];rw[VO ⟨k,hk⟩];exact f1,f2⟩
 ·intro r j x hx;obtain⟨y,h',k,box,rfl,q2,q3,q4,q5⟩:=kN.leaves h r j x hx;obtain⟨h0,k0,box0,e1,e2,e3,e4⟩:=hS.leaf r j _ q2;cases e1;refine⟨y,k,box,rfl,q4,q5,?_⟩;unfold d4 at e4 ⊢;rw[q3.1]at e4;exact e4
 ·intro r x hx;exact(kN.metas h r x hx).1
 ·intro r b hb;simp only[G']at hb;split at hb
  ·rename_i e;exact e
  ·cases hb
 ·intro r j h0 e i hi;obtain⟨y,h',k,box,e1,q2,q3,q4,q5⟩:=kN.leaves h r j _ (av.1 e);cases e1;exact hS.anc r j h' (av.2 q2) i (q3.2 i hi)
 ·intro r x hx;have:=Ax hk r (ha r x hx);simp only[G'];obtain⟨k,hk2⟩:=this;rw[VO ⟨k,hk2⟩];obtain⟨g1,g2⟩:=hS.aloc r x hx;have:=(kN.metas h r _ hk2).2;rw[this]at g2;cases g2;exact⟨g1,hk2⟩
 ·intro r1 r2 k1 k2 b o1 o2 hne h1 h2 q1 q2;simp only[G']at q1 q2;rw[VO ⟨k1,h1⟩]at q1;rw[VO ⟨k2,h2⟩]at q2;exact hS.sep r1 r2 k1 k2 b o1 o2 hne (kN.metas h r1 _ h1).2 (kN.metas h r2 _ h2).2 q1 q2
 ·intro r b off hx ha2;simp only[G']at hx;split at hx
  ·exact hS.newb r b off hx ha2
  ·cases hx
def eG.drawn {g:Gm}{a:Act}{w:World}(h:eG cx g a w)(k:Nat):eG cx g a {w with drawn:=k}:=by
 obtain⟨G,hS⟩:=h
 let w':World:={w with drawn:=k}
 have st:Step g G w g G w':=⟨fun r j h hh=>⟨h,hh,.inl ⟨rfl,rfl,fun _ _ _ _=>rfl⟩⟩,fun b hb=>⟨hb,rfl⟩,fun b hb=>⟨hb,rfl⟩,fun r x h=>h⟩;refine⟨G,hS.defers,hS.tm,?_,hS.boxes,?_,hS.metas,hS.noloc,hS.lt,⟨hS.frame.os,hS.frame.tape,hS.frame.output,hS.frame.size,hS.frame.block⟩,hS.frow,hS.anc,hS.aloc,fun r b off e=>(hS.afr r b off e).keep rfl,hS.sep,hS.newb,hS.roX⟩
 ·intro d x hx;obtain⟨e1,r,e2,e3⟩:=hS.reg d x hx;exact⟨e1,r,e2,cV.step hS st _ _ e3⟩
 ·intro r j x hx;obtain⟨h,k',box,e1,e2,e3,e4⟩:=hS.leaf r j x hx;refine⟨h,k',box,e1,e2,e3,?_⟩;unfold d4 at e4 ⊢;split at e4
  ·exact⟨bT.keep (w':=w') _ _ _ e4.1 (fun _ _=>rfl),e4.2⟩
  ·obtain⟨S,h1,h2⟩:=e4;exact⟨S,bT.keep (w':=w') _ _ _ h1 (fun _ _=>rfl),h2⟩
  ·trivial
def Ns (fz:List (Nat×List Nat))(id:Nat)(σ:VS):VS:=
 match lk fz id with
 |some _=>σ
 |none=>σ
open Classical in
def C8 {fz:List (Nat×List Nat)}(hz:fz≠[]->∀ b,cx.ro b){id:Nat}{σ:VS}{a:Act}{w:World}(h:eG cx (get σ) a w):eG cx (get (Ns fz id σ)) a w:=by
 unfold Ns;split<;>exact h
def OO (O:zW)(fz:List (Nat×List Nat))(id:Nat)(σ:VS)(k:VS->Prop):Prop:=
 match lk fz id with
 |some _=>k σ
 |none=>k σ
def DL {fz:List (Nat×List Nat)}{id:Nat}{a:Act}{w:World}{σ:VS}{k:VS->Prop}(h:OO aj fz id σ k)(hS:eG cx (get σ) a w):∃ σ',k σ'/\eG cx (get σ') a w:=by
 unfold OO at h;split at h
 ·exact⟨σ,h,hS⟩
 ·exact⟨σ,h,hS⟩
end
end Go.V
namespace Go.V
section
variable (T: vK) (O: zW) (ct: Gu) (n: Nat) (an: List Nat) (fz: List (Nat × List Nat))
def FH:List Oper->Option (Nat×Nat×Nat)
 | [o1,o2]=>match o1.op with
   | .next (.tmp it) false=>match o2.op with
     | .extract (.tmp d) 0=>match o1.dst,o1.guard,o2.dst,o2.guard with
       | some d1,none,some d2,none=>match ZL d d1 with
         |true=>some (it,d1,d2)
         |false=>none
       |_,_,_,_=>none
     |_=>none
   |_=>none
 |_=>none
def Me (it d1 d2:Nat)(draw:Bool)(σ:VS)(K:VS->Prop):Prop:=
 match draw with
 |true=>False
 | false=>match get σ (.reg it)with
   | some (.r (.one (.it es vs)))=>(uG it σ&&(WH d1 n&&(WH d2 n&&(!Nat.beq d1 it&& !Nat.beq d2 it))))=true/\
      (∀ k:Int,O.pr (fun _=>k∈oc es/\vs.length<es.length)->K (.reg d2 (.k true):: .reg d1 (.one .un):: .reg it (.one (.it es (k::vs)))::σ))/\
      (O.pr (fun _=>∀ k∈oc es,k∈vs)->K (.reg d2 (.k false):: .reg d1 (.one .un)::σ))
   |_=>False
def Eh (id:Nat)(ops:Array Oper)(draw:Bool)(Q:VS->Prop)(σ:VS):Prop:=
 AQ T O ct n ops ops.toList σ [] fun σ' acc=>match draw with
  |true=>O.pr (fun _=>bz ops acc.reverse=true)/\OO O fz id (Ns fz id σ') Q
  |false=>OO O fz id (Ns fz id σ') Q
def mW:Code->(Ex->VS->Prop)->VS->Prop
 | .skip,Q,σ=>Q .normal σ
 | .region id ops draw,Q,σ=>match FH ops.toList with
   |some (it,d1,d2)=>Me O n it d1 d2 draw σ (fun σ'=>Q .normal σ')
   | none=>match lk T.alL id with
     |none=>Eh T O ct n fz id ops draw (Q .normal) σ
     |some _=>Eh T O ct n fz id ops draw (Q .normal) σ\/Eh T O ⟨ct.rd,ct.mu,fun _=>none,ct.nw,ct.tk⟩ n fz id ops draw (Q .normal) σ
 | .seq x y,Q,σ=>mW x (fun e σ'=>match e with
    | .normal=>mW y Q σ'
    | .exit i=>Q (.exit i) σ'
    | .ret=>Q .ret σ') σ
 | .cond c x y,Q,σ=>(Bh c .ret).wpU (get σ) [] fun _ b=>Jy b (fun _=>mW x Q σ) (fun _=>mW y Q σ)
 | .block id x,Q,σ=>mW x (fun e σ'=>match e with
    | .normal=>Q .normal σ'
    | .exit i=>match ZL i id with
      |true=>Q .normal σ'
      |false=>Q (.exit i) σ'
    | .ret=>Q .ret σ') σ
 | .loop x,Q,σ=>∃ (regs roots:List Nat) (α:Type) (ov:α->List W) (rel:α->Prop) (μ:α->Nat),(∃ s0,rel s0/\LeO an σ (Aw σ regs roots (ov s0)))/\
    ∀ s,rel s->mW x (fun e σ'=>match e with
     | .normal=>∃ s',rel s'/\μ s'<μ s/\LeO an σ' (Aw σ regs roots (ov s'))
     | .exit i=>Q (.exit i) σ'
     | .ret=>Q .ret σ') (Aw σ regs roots (ov s))
 | .exit id,Q,σ=>Q (.exit id) σ
 | .ret,Q,σ=>Q .ret σ
 | .scope x,Q,σ=>mW x Q σ
 |_,_,_=>False
def JX {α:Type}(O:zW)(ti:TI)(k:DV->List (Nat×Nat)->Rd α)(as:List A):Rd α:=
 jX O ti.slots as fun lts srcs=>if ti.agg then k (.agg (lts.map (·.1))) srcs else match lts with
  |[(l,_)]=>k (.one l) srcs
  |_=>.fail
def Lr {α:Type}(t:TypeId)(rv:ResultVar)(k:DV->List (Nat×Nat)->Rd α):Rd α:=
 match lk T.tyL t with
 |none=>.fail
 | some ti=>match rv with
   | .tmp x=>Ct x fun r=>match r with
     | .one a=>if ti.agg then .fail else JX O ti k [a]
     | .agg as=>if ti.agg then JX O ti k as else .fail
     | .tup _=>.fail
   | .cell x t'=>if t'==t then Ct x fun r=>match r with
     | .one (.pt r j)=>hZ O r j ti.zero.length (JX O ti k)
     |_=>.fail
     else .fail
def yr {α:Type}:List TypeId->List ResultVar->(List DV->List (Nat×Nat)->Rd α)->Rd α
 |[],[],k=>k [] []
 |t::ts,rv::rvs,k=>Lr T O t rv fun d src=>yr ts rvs fun ds srcs=>k (d::ds) (src++srcs)
 |_,_,_=>.fail
def AP (ts:List TypeId)(rvs:List ResultVar)(σ:VS)(res:List DV):Prop:=
 (yr T O ts rvs fun ds srcs=>if bG srcs then .req (O.pr fun _=>ds=res) (.ret ())else .fail).wpU (get σ) [] fun _ _=>True
end
section
variable {P: Program} {T: vK} {cx: Cx} {g: Gm}
def Fu {α:Type}{r j:Nat}{h0:Hv}{k' k:A->Rd α}{ls:List Loc}{x:α}(hk:∀ a ls,(k' a).Runs g ls x->(k a).Runs g ls x)(h:(x8 r j h0 k').Runs g ls x):(x8 r j h0 k).Runs g ls x:=by
 unfold x8 at h ⊢;split at h
 ·split at h
  ·refine dC (fun v ls h=>?_) h;split at h
   ·split at h
    ·split at h
     ·rename_i hb;rw[VO hb];exact hk _ _ h
     ·rename_i hb;rw[VP hb];exact hk _ _ h
    ·exact hk _ _ h
   ·exact hk _ _ h
  ·exact hk _ _ h
 ·exact hk _ _ h
 ·exact hk _ _ h
def oS {α:Type}{r:Nat}:∀ {m j:Nat} {k' k:List A->Rd α} {ls:List Loc} {x:α},(∀ as ls,(k' as).Runs g ls x->(k as).Runs g ls x)->(eD r j m k').Runs g ls x->(eD r j m k).Runs g ls x
 |0,j,k',k,ls,x,hk,h=>hk _ _ h
 |m+1,j,k',k,ls,x,hk,h=>dC (fun v ls h=>Fu (fun a ls h=>oS (fun as ls h=>hk _ _ h) h) h) h
def IB (hT:bO P T){α:Type}{t:TypeId}{rv:ResultVar}{k' k:DV->List (Nat×Nat)->Rd α}{ls:List Loc}{x:α}(hk:∀ d s ls,(k' d s).Runs g ls x->(k d s).Runs g ls x)(h:(Lr T aj t rv k').Runs g ls x):(Lq P t rv k).Runs g ls x:=by
 revert h
 unfold Lr Lq;rcases hT.ty t with e|⟨ti,e,e2⟩
 ·simp only[e];exact fun h=>h.elim
 ·simp only[e,e2];have hf:∀ (as:List A) (ls:List Loc),(JX aj ti k' as).Runs g ls x->(dk ti.slots as fun lts srcs=>if ti.agg then k (.agg (lts.map (·.1))) srcs else match lts with
   |[(l,_)]=>k (.one l) srcs
   |_=>.fail).Runs g ls x:=by
   intro as ls h;unfold JX at h;rw[jY]at h;refine jd ?_ h;intro l src ls h;by_cases ha:ti.agg=true
   ·rw[VO ha]at h ⊢;exact hk _ _ _ h
   ·rw[VP ha]at h ⊢;split at h
    ·exact hk _ _ _ h
    ·exact h.elim
  intro h;cases rv with
  | tmp y=>
    refine yo ?_ h;intro r ls h;cases r with
    | one a=>
      simp only at h ⊢;split at h
      ·exact h.elim
      ·rename_i hb;rw[VP hb];exact hf _ _ h
    | agg as=>
      simp only at h ⊢;split at h
      ·rename_i hb;rw[VO hb];exact hf _ _ h
      ·exact h.elim
    |tup rs=>exact h
  | cell y t'=>
    refine cX (fun ls h=>?_) h;refine yo ?_ h;intro r ls h;cases r with
    | one a=>cases a with
      | pt r j=>
        simp only[lQ]at h;exact oS (fun as ls h=>hf as ls h) h
      |_=>exact h
    |agg as=>exact h
    |tup rs=>exact h
def lS (hT:bO P T){α:Type}:∀ {ts:List TypeId} {rvs:List ResultVar} {k' k:List DV->List (Nat×Nat)->Rd α} {ls:List Loc} {x:α},(∀ d s ls,(k' d s).Runs g ls x->(k d s).Runs g ls x)->(yr T aj ts rvs k').Runs g ls x->(yq P ts rvs k).Runs g ls x
 |[],[],k',k,ls,x,hk,h=>hk _ _ _ h
 |[],_::_,k',k,ls,x,hk,h=>h
 |_::_,[],k',k,ls,x,hk,h=>h
 |t::ts,rv::rvs,k',k,ls,x,hk,h=>IB hT (fun d s ls h=>lS hT (fun d s ls h=>hk _ _ _ h) h) h
def Du {ops:List Oper}{it d1 d2:Nat}(h:FH ops=some (it,d1,d2)):∃ o1 o2,ops=[o1,o2]/\o1.op=.next (.tmp it) false/\o1.dst=some d1/\o1.guard=none/\o2.op=.extract (.tmp d1) 0/\o2.dst=some d2/\o2.guard=none:=by
 unfold FH at h;split at h
 ·rename_i o1 o2;split at h
  ·rename_i it' e1;split at h
   ·rename_i d e2;split at h
    ·rename_i e3 e4 e5 e6;split at h
     ·rename_i hb;cases h;cases Z6 hb;exact⟨o1,o2,rfl,e1,e3,e4,e2,e5,e6⟩
     ·cases h
    ·cases h
   ·cases h
  ·cases h
 ·cases h
def qd {fz:List (Nat×List Nat)}(hz:fz≠[]->∀ b,cx.ro b)(hT:bO P T){ct:Gu}(hct:wR P ct)(hm:P.follows .mixedOrders=true){n:Nat}(hn:n=cx.n){id:Nat}{ops:Array Oper}{draw:Bool}{Q:Ex->VS->Prop}{σ:VS}{a:Act}{w:World}(h:Eh T aj ct n fz id ops draw (Q .normal) σ)(hS:eG cx (get σ) a w):
 (Vq id ops draw).wp P (fun e a' w'=>∃ ex σ',e=Ni ex/\Q ex σ'/\eG cx (get σ') a' w') a w:=by
 unfold Eh at h;obtain⟨xs,σ',h1,h2⟩:=qH hT hct _ _ _ _ h;subst hn;cases draw with
 | false=>exact wp_region_list (h1.text hS (fun a' w' hs=>by
    obtain⟨σ2,k1,k2⟩:=DL h2 (C8 hz hs);exact⟨.normal,σ2,rfl,k1,k2⟩))
 | true=>
   obtain⟨h2,h3⟩:=h2;refine DD hm h1 ?_ (fun a' w' hs=>by
    obtain⟨σ2,k1,k2⟩:=DL h3 (C8 hz hs);exact⟨.normal,σ2,rfl,k1,k2⟩) (fun a w h=>h.drawn _) hS
   have h2:bz ops _=true:=h2
   simpa using h2
def dm {fz:List (Nat×List Nat)}(hz:fz≠[]->∀ b,cx.ro b)(hT:bO P T){ct:Gu}(hct:wR P ct)(hm:P.follows .mixedOrders=true){n:Nat}(hn:n=cx.n){an:List Nat}(ha:∀ r x,cx.aloc r=some x->r∈an):∀ (c:Code) (Q:Ex->VS->Prop) (σ:VS) (a:Act) (w:World),mW T aj ct n an fz c Q σ->eG cx (get σ) a w->
 c.wp P (fun e a' w'=>∃ ex σ',e=Ni ex/\Q ex σ'/\eG cx (get σ') a' w') a w
 | .skip,Q,σ,a,w,h,hS=>wp_skip ⟨.normal,σ,rfl,h,hS⟩
 | .region id ops draw,Q,σ,a,w,h,hS=>by
   unfold mW at h;split at h
   ·rename_i it d1 d2 hq;unfold Me at h;split at h
    ·exact h.elim
    split at h
    case h_2=>exact h.elim
    rename_i es vs hit;obtain⟨hb,hT',hF'⟩:=h;simp only[Zb,Yp]at hb;obtain⟨b1,b2,b3,b4,b5⟩:=hb;obtain⟨o1,o2,e0,p1,p2,p3,p4,p5,p6⟩:=Du hq;subst hn;refine wp_region_list ?_;rw[e0];refine FI hS hit b1 (by simpa[Vr]using b2) (by simpa[Vr]using b3) (WI b4) (WI b5) p1 p2 p3 p4 p5 p6 ?_ ?_
    ·intro k hk hl a' w' hs;exact⟨.normal,_,rfl,hT' k ⟨hk,hl⟩,hs⟩
    ·intro hall a' w' hs;exact⟨.normal,_,rfl,hF' hall,hs⟩
   split at h
   ·exact qd hz hT hct hm hn h hS
   ·rcases h with h|h;exact qd hz hT hct hm hn h hS;exact qd hz (ct:=⟨ct.rd,ct.mu,fun _=>none,ct.nw,ct.tk⟩) hT ⟨hct.1,hct.2.1,fun _ _ e=>(by cases e),hct.2.2.2.1,hct.2.2.2.2⟩ hm hn h hS
 | .seq x y,Q,σ,a,w,h,hS=>by
   refine wp_seq (YF ?_ (dm hz hT hct hm hn ha x _ σ a w h hS));rintro e a' w' ⟨ex,σ',rfl,hq,hs⟩;cases ex with
   |normal=>exact dm hz hT hct hm hn ha y Q σ' a' w' hq hs
   |exit i=>exact⟨.exit i,σ',rfl,hq,hs⟩
   |ret=>exact⟨.ret,σ',rfl,hq,hs⟩
 | .cond c x y,Q,σ,a,w,h,hS=>by
   obtain⟨G,hG⟩:=id hS;obtain⟨ls,b,t,h1,h2,_⟩:=Rd.wpU_runs h;obtain⟨b',ls',e,h3⟩:=sJ hG h1;refine wp_cond e ?_;simp only[Rd.Runs]at h3;obtain⟨_,rfl⟩:=h3;cases b with
   |true=>exact dm hz hT hct hm hn ha x Q σ a w h2 hS
   |false=>exact dm hz hT hct hm hn ha y Q σ a w h2 hS
 | .block id x,Q,σ,a,w,h,hS=>by
   refine wp_block (YF ?_ (dm hz hT hct hm hn ha x _ σ a w h hS));rintro e a' w' ⟨ex,σ',rfl,hq,hs⟩;cases ex with
   |normal=>exact⟨.normal,σ',rfl,hq,hs⟩
   | exit i=>
     simp only[Ni,Exit.inBlock];simp only at hq;split at hq
     ·rename_i e;rw[VO (Z6 e)];exact⟨.normal,σ',rfl,hq,hs⟩
     ·rename_i e;rw[VP (WI e)];exact⟨.exit i,σ',rfl,hq,hs⟩
   |ret=>exact⟨.ret,σ',rfl,hq,hs⟩
 | .loop x,Q,σ,a,w,h,hS=>by
   obtain⟨regs,roots,α,ov,rel,μ,⟨s0,hr0,hle0⟩,hround⟩:=h;refine wp_loop_ghost (fun s a w=>rel s/\eG cx (get (Aw σ regs roots (ov s))) a w) μ s0 ⟨hr0,hle0.sim ha hS⟩ ?_;rintro s a w ⟨hr,hs⟩;refine YF ?_ (dm hz hT hct hm hn ha x _ _ a w (hround s hr) hs);rintro e a' w' ⟨ex,σ',rfl,hq,hs'⟩;cases ex with
   | normal=>
     obtain⟨s',k1,k2,k3⟩:=hq;exact⟨s',⟨k1,k3.sim ha hs'⟩,k2⟩
   |exit i=>exact⟨.exit i,σ',rfl,hq,hs'⟩
   |ret=>exact⟨.ret,σ',rfl,hq,hs'⟩
 | .exit id,Q,σ,a,w,h,hS=>wp_exit ⟨.exit id,σ,rfl,h,hS⟩
 | .ret,Q,σ,a,w,h,hS=>wp_ret ⟨.ret,σ,rfl,h,hS⟩
 | .scope x,Q,σ,a,w,h,hS=>by
   refine wp_scope_straight (YF ?_ (dm hz hT hct hm hn ha x Q σ a w h hS));rintro e a' w' ⟨ex,σ',rfl,hq,hs⟩;cases ex with
   |normal=>exact⟨.normal,σ',rfl,hq,hs⟩
   |exit i=>exact⟨.exit i,σ',rfl,hq,hs⟩
   |ret=>exact⟨.ret,σ',rfl,hq,hs⟩
 | .rangeFunc _ _ _ _,Q,σ,a,w,h,hS=>h.elim
 | .label _,Q,σ,a,w,h,hS=>h.elim
 | .goto _,Q,σ,a,w,h,hS=>h.elim
 | .refuse _,Q,σ,a,w,h,hS=>h.elim
def Nl (T:vK)(O:zW)(ts:List TypeId)(rvs:List ResultVar)(res:List DV):Ex->VS->Prop
 | .normal,σ=>AP T O ts rvs σ res
 | .ret,σ=>AP T O ts rvs σ res
 | .exit _,_=>False
def ah {α:Type}{rel:α->Prop}{μ:α->Nat}{m:Nat}{le:α->Prop}(s:α)(h3:le s)(h1:rel s)(h2:μ s<m):∃ s,rel s/\μ s<m/\le s:=⟨s,h1,h2,h3⟩
end
end Go.V
namespace Go.V
def rB:L->L->Bool
 | .v (.int k _),.v (.int k' _)=>k==k'
 | .v (.bool _),.v (.bool _)=>true
 | .v (.string _),.v (.string _)=>true
 | .s sz _,.s sz' _=>sz==sz'
 |_,_=>false
def mN:aT->aT->Bool
 |[],[]=>true
 |z::zs,x::xs=>rB z x&&mN zs xs
 |_,_=>false
def Wf (z:aT)(es:af):Prop:=∀ e∈es,mN z e=true
def vf:∀ {z e:aT},mN z e=true->e.length=z.length
 |[],[],_=>rfl
 |[],_::_,h=>by cases h
 |_::_,[],h=>by cases h
 | z::zs,x::xs,h=>by
   simp only[mN,Zb]at h;simp[vf h.2]
def Am:∀ (o:Nat) {z e:aT},mN z e=true->mN (z.drop o) (e.drop o)=true
 |0,z,e,h=>h
 |o+1,[],[],h=>by simp[mN]
 |o+1,[],_::_,h=>by cases h
 |o+1,_::_,[],h=>by cases h
 | o+1,z::zs,x::xs,h=>by
   simp only[mN,Zb]at h;exact Am o h.2
def An:∀ (m:Nat) {z e:aT},mN z e=true->mN (z.take m) (e.take m)=true
 |0,z,e,h=>by simp[mN]
 |m+1,[],[],h=>by simp[mN]
 |m+1,[],_::_,h=>by cases h
 |m+1,_::_,[],h=>by cases h
 | m+1,z::zs,x::xs,h=>by
   simp only[mN,Zb]at h;simp only[List.take_succ_cons,mN,Zb];exact⟨h.1,An m h.2⟩
def Wf.at {z:aT}{es:af}(h:Wf z es){n:Nat}(hn:n<es.length):mN z (es.getD n [])=true:=by
 rw[Zm,Zt hn];exact h _ (List.getElem_mem hn)
def Wf.nil {z:aT}:Wf z []:=fun _ h=>by cases h
def Wf.cons {z e:aT}{es:af}(h:mN z e=true)(hs:Wf z es):Wf z (e::es):=by
 intro x hx;rcases Zl.1 hx with rfl|hx;exact h;exact hs x hx
def Wf.append {z:aT}{es fs:af}(h:Wf z es)(hs:Wf z fs):Wf z (es++fs):=by
 intro x hx;rcases Zh.1 hx with hx|hx;exact h x hx;exact hs x hx
def Wf.take {z:aT}{es:af}(h:Wf z es)(n:Nat):Wf z (es.take n):=fun x hx=>h x (List.mem_of_mem_take hx)
def Wf.drop {z:aT}{es:af}(h:Wf z es)(n:Nat):Wf z (es.drop n):=fun x hx=>h x (List.mem_of_mem_drop hx)
def xL {es:af}{i:Int}{t:aT}:∀ {z:aT} {j:Nat} {rest:aT},mN z rest=true->(es.getD i.toNat []).drop j=rest++t->mb aj es i j z=rest
 |[],j,[],_,_=>rfl
 |[],_,_::_,h,_=>by cases h
 |_::_,_,[],h,_=>by cases h
 | z::zs,j,x::xs,h,e=>by
   simp only[mN,Zb]at h;have hx:(es.getD i.toNat []).getD j .g=x:=by
    have:(es.getD i.toNat [])[j]?=some x:=by
     have:=congrArg (fun l:aT=>l[0]?) e
     simpa[Zu]using this
    rw[Zm,this];rfl
   have hr:(es.getD i.toNat []).drop (j+1)=xs++t:=by
    rw[<-Yj,e];rfl
   have ih:=xL h.2 hr;cases z with
   | v z=>cases z with
     | int k n=>cases x with
       | v x=>cases x with
         | int k' n'=>
           have:k=k':=by simpa[rB]using h.1
           subst this;simp only[mb,ih]
           congr 3
           exact(show ag es i j=_ by simp only[ag,hx,Mv])
         |_=>simp[rB]at h
       |_=>simp[rB]at h
     | bool b=>cases x with
       | v x=>cases x with
         | bool b'=>
           simp only[mb,ih]
           congr 3
           exact(show qi es i j=_ by simp only[qi,hx,lfB])
         |_=>simp[rB]at h
       |_=>simp[rB]at h
     | string b=>cases x with
       | v x=>cases x with
         | string b'=>
           simp only[mb,ih]
           congr 3
           exact(show P3 es i j=_ by simp only[P3,hx,lfT])
         |_=>simp[rB]at h
       |_=>simp[rB]at h
     |_=>simp[rB]at h
   | s sz es0=>cases x with
     | s sz' es'=>
       have:sz=sz':=by simpa[rB]using h.1
       subst this;simp only[mb,ih]
       congr 2
       exact(show aU es i j=_ by simp only[aU,hx,Qi])
     |_=>simp[rB]at h
   |g=>simp[rB]at h
   |m _ _=>simp[rB]at h
def abe {z:aT}{es:af}{i:Int}(hr:Wf z es)(h0:0<=i)(h1:i<es.length):0<=i/\i<es.length/\es.getD i.toNat []=mb aj es i 0 z:=
 ⟨h0,h1,(xL (t:=[]) (hr.at Uc) (by simp)).symm⟩
def lO {sz:Nat}{es:af}{n j:Nat}:bZ (.s sz es) [(n,j)]=(es[n]?).map (·,j):=rfl
def BH {sz:Nat}{es:af}{n j:Nat}:zq (.s sz es) [(n,j)]=ag es n j:=by
 simp only[zq,pbI,ptI,ag,qi,P3,H6,lO,ZJ,Zm];cases es[n]? with
 |none=>rfl
 | some e=>
   simp only[Yk,Z0];cases e[j]? with
   |none=>rfl
   | some x=>cases x with
     |v x=>cases x<;>rfl
     |_=>rfl
def aaQ {sz:Nat}{es:af}{n j:Nat}:pbI (.s sz es) [(n,j)]=qi es n j:=by
 simp only[zq,pbI,ptI,ag,qi,P3,H6,lO,ZJ,Zm];cases es[n]? with
 |none=>rfl
 | some e=>
   simp only[Yk,Z0];cases e[j]? with
   |none=>rfl
   | some x=>cases x with
     |v x=>cases x<;>rfl
     |_=>rfl
def aaZ {sz:Nat}{es:af}{n j:Nat}:ptI (.s sz es) [(n,j)]=P3 es n j:=by
 simp only[zq,pbI,ptI,ag,qi,P3,H6,lO,ZJ,Zm];cases es[n]? with
 |none=>rfl
 | some e=>
   simp only[Yk,Z0];cases e[j]? with
   |none=>rfl
   | some x=>cases x with
     |v x=>cases x<;>rfl
     |_=>rfl
def aaY {sz:Nat}{es:af}{n j:Nat}:nD (.s sz es) [(n,j)]=aU es n j:=by
 simp only[nD,aU,gB,lO,ZJ,Zm];cases es[n]? with
 |none=>rfl
 | some e=>
   simp only[Yk,Z0];cases e[j]? with
   |none=>rfl
   |some x=>cases x<;>rfl
def O1:aj.pi=zq:=rfl
def O0:aj.pb=pbI:=rfl
def O3:aj.pt=ptI:=rfl
def O2:aj.ps=nD:=rfl
def OX:aj.gi=ag:=rfl
def OW:aj.gb=qi:=rfl
def OZ:aj.gt=P3:=rfl
def OY:aj.gs=aU:=rfl
def C0 {sz:Nat}{es:af}{n o:Nat}:∀ {z:aT} {j:Nat},kP aj (.s sz es) [(n,o)] j z=mb aj es n (o+j) z
 |[],j=>rfl
 | z::zs,j=>by
   have ih:kP aj (.s sz es) [(n,o)] (j+1) zs=mb aj es n (o+j+1) zs:=C0;cases z with
   |v x=>cases x<;>simp only[kP,mb,wq,O1,O0,O3,OX,OW,OZ,BH,aaQ,aaZ,ih]
   |s a b=>simp only[kP,mb,wq,O2,OY,aaY,ih]
   |g=>simp only[kP,mb,ih]
   |m _ _=>simp only[kP,mb,ih]
def fv {z z0:aT}{sz:Nat}{es:af}{n o:Nat}(hr:Wf z0 es)(hn:n<es.length)(hz:(z0.drop o).take z.length=z)(ho:o+z.length<=z0.length):
 ∃ rec o',bZ (.s sz es) [(n,o)]=some (rec,o')/\o'+z.length<=rec.length/\(rec.drop o').take z.length=kP aj (.s sz es) [(n,o)] 0 z:=by
 have hf:=hr.at hn;have e1:es[n]?=some (es.getD n []):=by rw[Zm,Zt hn];rfl
 refine⟨es.getD n [],o,by rw[lO,e1];rfl,?_,?_⟩
 ·rw[vf hf];exact ho
 ·have hf2:mN z (((es.getD n []).drop o).take z.length)=true:=by
   have:=An z.length (Am o hf);rw[hz]at this;exact this
  rw[C0]
  symm
  exact xL (t:=((es.getD n []).drop o).drop z.length) hf2 (by rw[Yl,ZJ];exact(ZU _ _).symm)
end Go.V
namespace Go.V
inductive Ty where
 |int (k:IntKind)
 |bool
 |str
 |sl (fs:List Ty)
mutual
def dD:Ty->L->Prop
 | .int k,.v (.int k' n)=>k'=k/\k.has n
 | .bool,.v (.bool _)=>True
 | .str,.v (.string s)=>s.size<=maxLen
 | .sl fs,.s sz es=>sz=fs.length/\es.length<=maxLen/\∀ e∈es,bV fs e
 |_,_=>False
def bV:List Ty->aT->Prop
 |[],[]=>True
 |t::ts,l::ls=>dD t l/\bV ts ls
 |_,_=>False
end
def shape (P:Program):Nat->TypeId->Option (List Ty)
 |0,_=>none
 | k+1,t=>
   let r:Option (List Ty):=match P.underlying t with
    |some (.int kd)=>some [.int kd]
    |some .bool=>some [.bool]
    |some .string=>some [.str]
    | some (.slice e)=>match shape P k e with
      |some (f::fs)=>if P.cellsOf e=(f::fs).length then some [.sl (f::fs)]else none
      |_=>none
    | some (.struct fs)=>(fs.toList.foldl (fun acc fd=>match acc,shape P k fd.type with
       |some acc,some ts=>if fd.offset=acc.length/\P.cellsOf fd.type=ts.length then some (acc++ts)else none
       |_,_=>none) (some []))
    |_=>none
   match r with
   |some ts=>if P.cellsOf t=ts.length then some ts else none
   |none=>none
def sG:∀ {ts us:List Ty} {r s:aT},bV ts r->bV us s->bV (ts++us) (r++s)
 |[],us,[],s,_,h2=>h2
 |[],_,_::_,_,h,_=>by simp[bV]at h
 |_::_,_,[],_,h,_=>by simp[bV]at h
 | t::ts,us,l::ls,s,h,h2=>by
   simp only[bV,List.cons_append]at h ⊢;exact⟨h.1,sG h.2 h2⟩
section
variable {P: Program} {w: World}
def HA {sz:Nat}{c:aT->Prop}:∀ (len:Nat) (l:List Value),l.length=len*sz->(∀ i,i<len->∃ rec S,ai w rec ((l.drop (i*sz)).take sz) S/\c rec)->
 ∃ es S,es.length=len/\bN w sz es l S/\∀ e∈es,c e
 |0,l,hl,_=>⟨[],[],rfl,by simp only[bN];exact⟨Yv (by simpa using hl),trivial⟩,fun e h=>by cases h⟩
 | len+1,l,hl,h=>by
   obtain⟨rec,S,h1,h2⟩:=h 0 Uc;have hsz:sz<=l.length:=by rw[hl,Zp];omega
   obtain⟨es,T,k1,k2,k3⟩:=HA (sz:=sz) (c:=c) len (l.drop sz) (by rw[Zq,hl,Zp];omega) (fun i hi=>by
    obtain⟨rec,S,h1,h2⟩:=h (i+1) Uc;refine⟨rec,S,?_,h2⟩;rw[Yj];rw[show sz+i*sz=(i+1)*sz from by rw[Zp];omega];exact h1)
   refine⟨rec::es,S++T,by simp[k1],?_,?_⟩
   ·simp only[bN];refine⟨l.take sz,l.drop sz,S,T,(ZU _ _).symm,by simp;omega,by simpa using h1,k2,rfl⟩
   ·intro e he;rcases Zl.1 he with rfl|he;exact h2;exact k3 e he
def xC {a:Addr}{n:Nat}{cs:List Value}(h:w.cells? 0 a n=some cs):cs.length=n/\∀ k,k<n->w.cell? (a.add k)=cs[k]?:=by
 unfold World.cells? at h;rw[VO (Zv _)]at h;have hl:=mapM_some_length h;refine⟨by simpa using hl,fun k hk=>mapM_some_get h k k (by simp[hk])⟩
def add_add' (a:Addr)(ha:a.spot=none)(i k:Nat):(a.add i).add k=⟨a.block,a.off+i+k,none⟩:=by
 obtain⟨b,o,s⟩:=a;simp only at ha;subst ha;unfold Addr.add;split<;>split<;>simp_all<;>omega
def rC {α:Type}{f:Option (List Ty)->α->Option (List Ty)}(hf:∀ x,f none x=none):∀ (l:List α),l.foldl f none=none
 |[]=>rfl
 |x::l=>by rw[Y3,hf];exact rC hf l
def uA {H:Type}{enc:TypeId×Value->H}:∀ (k:Nat) (t:TypeId) (ts:List Ty),shape P k t=some ts->∀ (fuel:Nat) (cs:List Value) (x:DataW H×List MemPlace),Xt enc P w 0 (fun _=>true) true fuel t cs=some x->
 ∃ rec S,ai w rec cs S/\bV ts rec
 |0,t,ts,hs,_,_,_,_=>by simp[shape]at hs
 |k+1,t,ts,hs,0,_,_,h=>by simp[Xt]at h
 | k+1,t,ts,hs,fuel+1,cs,x,h=>by
   simp only[shape]at hs;have hcell:P.cellsOf t=ts.length:=by
    split at hs
    ·rename_i r _;split at hs
     ·rename_i hc;cases hs;exact hc
     ·cases hs
    ·cases hs
   unfold Xt at h;cases hu:P.underlying t with
   |none=>simp[hu]at hs
   | some d=>
     simp only[hu]at hs h;cases d with
     | int kd=>
       have:ts=[.int kd]:=by
        simp only at hs;split at hs
        ·cases hs;rfl
        ·cases hs
       subst this
       match cs,h with
       | [.int k' n],h=>
         simp only at h;split at h
         ·rename_i hc;obtain⟨rfl,hwf⟩:=hc;simp only[Lit.wf,Zb,VN]at hwf;exact⟨[.v (.int k' n)],[],by simp[ai,bT,scal],by simp only[bV,dD];exact⟨⟨trivial,hwf⟩,trivial⟩⟩
         ·cases h
     | bool=>
       have:ts=[.bool]:=by
        simp only at hs;split at hs
        ·cases hs;rfl
        ·cases hs
       subst this
       match cs,h with
       |[.bool b],h=>exact⟨[.v (.bool b)],[],by simp[ai,bT,scal],by simp[bV,dD]⟩
     | string=>
       have:ts=[.str]:=by
        simp only at hs;split at hs
        ·cases hs;rfl
        ·cases hs
       subst this
       match cs,h with
       | [.string b],h=>
         simp only at h;split at h
         ·rename_i hc;exact⟨[.v (.string b)],[],by simp[ai,bT,scal],by simp only[bV,dD];exact⟨hc,trivial⟩⟩
         ·cases h
     | slice e=>
       simp only at hs;cases he:shape P k e with
       |none=>simp[he]at hs
       | some fs=>
         cases fs with
         |nil=>simp[he]at hs
         | cons f fs=>
           simp only[he]at hs;split at hs
           ·rename_i r hr;split at hr
            ·rename_i hce;cases hr;split at hs
             ·cases hs
              match cs,h with
              | [.slice none 0 0],h=>
                refine⟨[.s (f::fs).length []],[],?_,?_⟩
                ·simp only[ai,bT];exact⟨_,[],[],[],rfl,⟨none,0,0,rfl,rfl,Ze _,Zv _,.inl ⟨rfl,rfl⟩⟩,⟨rfl,rfl⟩,rfl⟩
                ·simp only[bV,dD];exact⟨⟨trivial,Zv _,fun e h=>by cases h⟩,trivial⟩
              | [.slice (some a) len cap],h=>
                simp only at h;split at h
                ·rename_i hb;obtain⟨_,hlc,hcm⟩:=hb;simp only[if_true,ZC,X3]at h;obtain⟨elems,hel,rest,hrest,_⟩:=h;have hsz:P.cellsOf e=(f::fs).length:=hce;have hszp:0<P.cellsOf e:=by rw[hsz];simp
                 have hat:∀ i,i<cap->∃ ci y,w.cells? 0 (a.add (i*P.cellsOf e)) (P.cellsOf e)=some ci/\Xt enc P w 0 (fun _=>true) true fuel e ci=some y:=by
                  intro i hi;rcases Z8 i len with c|c
                  ·have:=mapM_some_get hel i i (Xm c);have hl:=mapM_some_length hel;simp only[XX]at hl;rw[Zt Uc]at this;simp only[X3]at this;obtain⟨ci,h1,h2⟩:=this;exact⟨ci,_,h1,h2⟩
                  ·have:=mapM_some_get hrest (i-len) (i-len) (Xm Uc);have hl:=mapM_some_length hrest;simp only[XX]at hl;rw[Zt Uc]at this;simp only[X3]at this;obtain⟨ci,h1,h2⟩:=this;rw[show len+(i-len)=i from by omega]at h1;exact⟨ci,_,h1,h2⟩
                 by_cases hc0:cap=0
                 ·subst hc0;have:len=0:=by omega
                  subst this;refine⟨[.s (f::fs).length []],[],?_,?_⟩
                  ·simp only[ai,bT];exact⟨_,[],[],[],rfl,⟨some a,0,0,rfl,rfl,Ze _,Zv _,.inl ⟨rfl,rfl⟩⟩,⟨rfl,rfl⟩,rfl⟩
                  ·simp only[bV,dD];exact⟨⟨trivial,Zv _,fun e h=>by cases h⟩,trivial⟩
                 ·obtain⟨c0,y0,z1,z2⟩:=hat 0 Uc;have z3:=(xC z1).2 0 hszp;have hz4:∃ v,w.cell? a=some v:=by
                   rw[Nat.zero_mul]at z3;have:(a.add 0).add 0=a:=rfl;rw[this]at z3;rw[z3];have:=(xC z1).1;exact⟨_,Zt Uc⟩
                  obtain⟨v0,hv0⟩:=hz4;have hblk:∃ cur ty fz,w.heap[a.block]?=some (.cells cur ty fz)/\a.spot=none:=by
                   unfold Ys at hv0;split at hv0
                   ·rename_i cur ty fz hh;refine⟨cur,ty,fz,hh,?_⟩;cases hsp:a.spot with
                    |none=>rfl
                    |some s=>simp[hsp]at hv0
                   ·cases hv0
                  obtain⟨cur,ty,fz,hh,hsp⟩:=hblk;have hcellat:∀ j,w.cell? ⟨a.block,j,none⟩=cur[j]?:=by
                   intro j;unfold Ys;simp[hh]
                  have hel2:∀ i,i<cap->∃ ci y,ci.length=P.cellsOf e/\(∀ kk,kk<P.cellsOf e->cur[a.off+i*P.cellsOf e+kk]?=ci[kk]?)/\Xt enc P w 0 (fun _=>true) true fuel e ci=some y:=by
                   intro i hi;obtain⟨ci,y,h1,h2⟩:=hat i hi;obtain⟨h3,h4⟩:=xC h1;refine⟨ci,y,h3,fun kk hkk=>?_,h2⟩;rw[<-h4 kk hkk,add_add' a hsp,hcellat]
                  have hfit:a.off+cap*P.cellsOf e<=cur.size:=by
                   obtain⟨ci,y,h1,h2,_⟩:=hel2 (cap-1) Uc;have:=h2 (P.cellsOf e-1) Uc;rw[Zt Uc]at this;have hlt:=(ZE.1 this).1;have:cap*P.cellsOf e=(cap-1)*P.cellsOf e+P.cellsOf e:=by
                    rw[<-Wt];congr 1;omega
                   omega
                  have hle:len*P.cellsOf e<=cap*P.cellsOf e:=ZN _ hlc;obtain⟨es,S,k1,k2,k3⟩:=HA (w:=w) (sz:=P.cellsOf e) (c:=bV (f::fs)) len ((cur.toList.drop a.off).take (len*P.cellsOf e)) (by simp only[List.length_take,Zq,Array.length_toList];omega) (fun i hi=>by
                   obtain⟨ci,y,h1,h2,h3⟩:=hel2 i Uc;obtain⟨rec,S,r1,r2⟩:=uA k e (f::fs) he fuel ci y h3;refine⟨rec,S,?_,r2⟩;have:(((cur.toList.drop a.off).take (len*P.cellsOf e)).drop (i*P.cellsOf e)).take (P.cellsOf e)=ci:=by
                    apply List.ext_getElem?;intro kk;have hii:(i+1)*P.cellsOf e<=len*P.cellsOf e:=ZN _ hi;rw[Wt]at hii;simp only[List.getElem?_take,Zu];by_cases ck:kk<P.cellsOf e
                    ·rw[VO ck,VO Uc, <-h2 kk ck,ZY];congr 1;omega
                    ·rw[VP ck,Z9 Uc]
                   rw[this];exact r1)
                  refine⟨[.s (f::fs).length es],a.block::S,?_,?_⟩
                  ·simp only[ai,bT];refine⟨_,[],a.block::S,[],rfl,⟨some a,len,cap,rfl,k1.symm,hlc,hcm,.inr ⟨a.block,a.off,cur,ty,fz,S,?_,hh,by rw[<-hsz];exact hfit,by rw[<-hsz];exact k2,rfl⟩⟩,⟨rfl,rfl⟩,by simp⟩;obtain⟨b,o,s⟩:=a;simp only at hsp;subst hsp;rfl
                  ·simp only[bV,dD];exact⟨⟨trivial,Uc,k3⟩,trivial⟩
                ·cases h
             ·cases hs
            ·cases hr
           ·cases hs
     | struct fs=>
       simp only at hs;generalize hfold:(fs.toList.foldl (fun acc fd=>match acc,shape P k fd.type with
        |some acc,some ts=>if fd.offset=acc.length/\P.cellsOf fd.type=ts.length then some (acc++ts)else none
        |_,_=>none) (some []))=r at hs
       cases r with
       |none=>cases hs
       | some ts0=>
         simp only at hs;by_cases hc0:P.cellsOf t=ts0.length
         case neg=>rw[VP hc0]at hs;cases hs
         rw[VO hc0]at hs;cases hs;simp only at h;split at h
         ·rename_i hcl;simp only[ZC]at h;obtain⟨xs,hxs,_⟩:=h;have key:∀ (l:List Field) (acc:List Ty) (xs:List (DataW H×List MemPlace)),l.foldl (fun acc fd=>match acc,shape P k fd.type with
           |some acc,some ts=>if fd.offset=acc.length/\P.cellsOf fd.type=ts.length then some (acc++ts)else none
           |_,_=>none) (some acc)=some ts->l.mapM (fun f=>Xt enc P w 0 (fun _=>true) true fuel f.type ((cs.drop f.offset).take (P.cellsOf f.type)))=some xs->
           ∃ tl,ts=acc++tl/\∃ rec S,ai w rec ((cs.drop acc.length).take tl.length) S/\bV tl rec:=by
           intro l
           induction l with
           |nil=>intro acc xs h _;simp only[List.foldl_nil,Ya]at h;exact⟨[],by simp[h],[],[],by simp[ai],by simp[bV]⟩
           | cons fd l ih=>
             intro acc xs h hm;rw[Y3]at h;cases hsf:shape P k fd.type with
             |none=>simp only[hsf]at h;rw[rC (fun _=>rfl)]at h;cases h
             | some us=>
               simp only[hsf]at h;by_cases hc:fd.offset=acc.length/\P.cellsOf fd.type=us.length
               ·rw[VO hc]at h;simp only[List.mapM_cons,Option.bind_eq_bind,X3]at hm;obtain⟨y,hy,ys,hys,_⟩:=hm;obtain⟨tl,e1,rec,S,r1,r2⟩:=ih (acc++us) ys h hys;obtain⟨rec0,S0,q1,q2⟩:=uA k fd.type us hsf fuel _ y hy;refine⟨us++tl,by rw[e1,List.append_assoc],rec0++rec,S0++S,?_,sG q2 r2⟩;have e2:(cs.drop acc.length).take (us++tl).length=(cs.drop fd.offset).take (P.cellsOf fd.type)++(cs.drop (acc++us).length).take tl.length:=by
                 rw[hc.1,hc.2,Zf,Zf,List.take_add,Yj]
                rw[e2];exact q1.append r1
               ·rw[VP hc]at h;rw[rC (fun _=>rfl)]at h;cases h
          obtain⟨tl,e1,rec,S,r1,r2⟩:=key fs.toList [] xs hfold hxs;simp only[Yd]at e1;subst e1;refine⟨rec,S,?_,r2⟩;rw[hcell]at hcl
          simpa[<-hcl]using r1
         ·cases h
     |_=>simp at hs
end
end Go.V
namespace Go.V
open Go.ChangeShapes Go.WideShapes Go.ChangeAt Go.RowKit
def Gz:Bool->aT->DV
 |true,rec=>.agg rec
 |false,[l]=>.one l
 |false,rec=>.agg rec
def AX:List (Bool×List Ty)->af->List DV
 |(b,_)::sh,r::rs=>Gz b r::AX sh rs
 |_,_=>[]
def CV:List (Bool×List Ty)->af->Prop
 |[],[]=>True
 |(_,ts)::sh,r::rs=>bV ts r/\CV sh rs
 |_,_=>False
def Dm (P:Program)(t:TypeId):Bool:=match P.underlying t with
 |some (.struct _)=>true
 |_=>false
def BS (P:Program)(t:TypeId):Option (Bool×List Ty):=(shape P 12 t).map (Dm P t, ·)
section
variable {P: Program} {w: World} {H: Type} {enc: TypeId × Value -> H}
def Lo {t:TypeId}{b:Bool}{ts:List Ty}(hs:BS P t=some (b,ts)){base:Nat}{v:Value}(hok:YX P w .any base t v){d:DataW H}{ps:List MemPlace} 
 (h:DataW.Trod enc P w 0 (fun _=>true) true t v d ps):∃ rec S,bV ts rec/\iq w (Gz b rec) v S:=by
 unfold BS at hs;cases hsh:shape P 12 t with
 |none=>simp[hsh]at hs
 | some ts'=>
   simp only[hsh,Yk,Ya,XW]at hs;obtain⟨hb,rfl⟩:=hs;obtain⟨fuel,h⟩:=h;obtain⟨rec,S,h1,h2⟩:=uA _ _ _ hsh _ _ _ h;refine⟨rec,S,h2,?_⟩;unfold Dm at hb;cases hu:P.underlying t with
   |none=>simp[shape,hu]at hsh
   | some ud=>
     have hcell:∀ (hv:v.cells= #[v]) (hbf:b=false),∃ l,rec=[l]/\iq w (Gz b rec) v S:=by
      intro hv hbf;rw[hv]at h1;have hl:=h1.length;simp only[Zi,Zk]at hl;obtain⟨l,rfl⟩:=List.length_eq_one_iff.1 hl.symm;refine⟨l,rfl,?_⟩;simp only[ai]at h1;obtain⟨v',vs',S1,S2,e,q1,⟨rfl,rfl⟩,rfl⟩:=h1;simp at e;obtain⟨rfl,_⟩:=e;rw[hbf]
      simpa[Gz,iq]using q1
     cases ud with
     | struct fs=>
       simp only[hu]at hb;subst hb;simp only[YX,hu]at hok;obtain⟨cs,rfl,_,_⟩:=hok;exact⟨cs.toList,by simp,h1⟩
     | int k=>
       simp only[YX,hu,X4,X5]at hok;split at hok<;>first|exact hok.elim|skip
       all_goals first|(obtain⟨l,rfl,h3⟩:=hcell rfl (by simpa[hu]using hb.symm);exact h3)|(rename_i hx _;cases hx)
     | bool=>
       simp only[YX,hu,X4,X5]at hok;split at hok<;>first|exact hok.elim|skip
       all_goals first|(obtain⟨l,rfl,h3⟩:=hcell rfl (by simpa[hu]using hb.symm);exact h3)|(rename_i hx _;cases hx)
     | string=>
       simp only[YX,hu,X4,X5]at hok;split at hok<;>first|exact hok.elim|skip
       all_goals first|(obtain⟨l,rfl,h3⟩:=hcell rfl (by simpa[hu]using hb.symm);exact h3)|(rename_i hx _;cases hx)
     | slice e=>
       simp only[YX,hu,X4,X5]at hok;split at hok<;>first|exact hok.elim|skip
       all_goals first|(obtain⟨l,rfl,h3⟩:=hcell rfl (by simpa[hu]using hb.symm);exact h3)|(rename_i hx _;cases hx)
     |_=>simp[shape,hu]at hsh
def iq.arg {d:DV}{v:Value}{S:List Nat}(h:iq w d v S):mX w d v S:=by
 cases d with
 |one l=>exact h
 |agg l=>exact h
 |_=>exact h.elim
def AH:∀ (ts:List TypeId) (sh:List (Bool×List Ty)) (vs:List Value) (ds:List (DataW H)) (ps:List MemPlace) (base:Nat),(ts.map (BS P))=sh.map some->
 (∀ (j:Nat) t v,ts[j]?=some t->vs[j]?=some v->YX P w .any base t v)->X6 enc P w 0 (fun _=>true) true ts vs ds ps->
 ∃ recs,CV sh recs/\dL (fun _=>True) w (AX sh recs) vs
 | [],[],vs,ds,ps,base,_,_,h=>by
   obtain⟨rfl,rfl,rfl⟩:=trodAll_nil h;exact⟨[],trivial,rfl⟩
 |[],_::_,_,_,_,_,h,_,_=>by simp at h
 |_::_,[],_,_,_,_,h,_,_=>by simp at h
 | t::ts,(b,us)::sh,vs,ds,ps,base,hsh,hok,h=>by
   simp only[ZZ,Vl]at hsh;obtain⟨v,vs',d,ds',p,q,rfl,rfl,rfl,h1,h2⟩:=trodAll_cons h;obtain⟨rec,S,r1,r2⟩:=Lo hsh.1 (hok 0 t v rfl rfl) h1;obtain⟨recs,k1,k2⟩:=AH ts sh vs' ds' q base hsh.2 (fun j t' v' e1 e2=>hok (j+1) t' v' (by simpa using e1) (by simpa using e2)) h2;exact⟨rec::recs,⟨r1,k1⟩,v,vs',S,rfl,r2.arg,fun _ _=>trivial,k2⟩
def Same.below {w w':World}(h:Same (fun _=>True) w w'):Below w.heap.size w w':=⟨h.os,h.tape,h.output,h.size,fun k hk=>h.block k hk trivial⟩
def Same.keptBut {w w':World}(h:Same (fun _=>True) w w')(may:MemPlace->Prop):w.keptBut w' may:=by
 refine⟨h.os,h.output,fun i hi=>?_⟩;rw[h.block i hi trivial];cases w.heap[i]? with
 |none=>rfl
 | some o=>cases o with
   |cells c t fr=>exact⟨rfl,rfl,rfl,fun _ _=>rfl⟩
   |map es clock=>exact .inr ⟨rfl,rfl⟩
   |_=>rfl
def qV {w':World}(hl:laidOutB P=true)(hb:Below w.heap.size w w'):∀ (ts:List TypeId) (vs:List Value) (ds:List (DataW H)) (ps:List MemPlace),(ts.all fun t=>P.readableRec t&&decide (t<P.types.size))=true->
 X6 enc P w 0 (fun _=>true) true ts vs ds ps->(∀ x∈ps,x.block<w.heap.size)->X6 enc P w' 0 (fun b=>decide (b<w.heap.size)) true ts vs ds ps
 | [],vs,ds,ps,_,h,_=>by
   obtain⟨rfl,rfl,rfl⟩:=trodAll_nil h;exact trodAll_mk0
 | t::ts,vs,ds,ps,hr,h,hlt=>by
   obtain⟨v,vs',d,ds',p,q,rfl,rfl,rfl,h1,h2⟩:=trodAll_cons h;simp only[List.all_cons,Zb,VN]at hr;exact⟨p,q,Below.trod hl hr.1.1 hr.1.2 h1 hb (fun x hx=>hlt x (by simp[hx])),qV hl hb ts vs' ds' q (by simpa using hr.2) h2 (fun x hx=>hlt x (by simp[hx])),rfl⟩
def Ih {f:FuncId}{fn:Func}{s:ChangeSpec}{sh:List (Bool×List Ty)}{tb:TypeId}(hvars:s.vars=[])(hspec:∀ ds:List (DataW H),ds.length=fn.params.toList.length->s.fn H (ds++[])=⟨[.lit (.bool true)],ds,[]⟩) 
 (hrt:fn.resultTypes= #[tb]) (htb:P.underlying tb=some .bool) (hl:laidOutB P=true) (hread:(fn.params.toList.all fun t=>P.readableRec t&&decide (t<P.types.size))=true)
 (hsh:fn.params.toList.map (BS P)=sh.map some) (hctr:∀ recs,CV sh recs->IU P f (AX sh recs) [.k true])
 {base:Nat} {args:Array Value} {ds gs:List (DataW H)} {before:List MemPlace} (hval:∀ (j:Nat) t v,fn.params[j]?=some t->args[j]?=some v->YX P w .any base t v)
 (hW:DataW.Whole enc P fn.params.toList s.vars false w args.toList ds gs before):
 Calls P f args w fun e w'=>∃ v,e=.returned v/\s.post enc P fn false true false false w args v w':=by
 have hW':=hW;obtain⟨p,q,hA,hV,rfl,hfz,hnd⟩:=hW;rw[hvars]at hV;obtain⟨rfl,rfl⟩:=trodVars_none hV;obtain⟨recs,h1,h2⟩:=AH fn.params.toList sh args.toList ds p base hsh (fun j t v e1 e2=>hval j t v (by simpa using e1) (by simpa using e2)) hA;have hc:=hctr recs h1 w args.toList h2;rw[Array.toArray_toList]at hc;refine hc.mono ?_;rintro e w' ⟨v,S,rfl,hr,_,_,hsame⟩;simp only[gy,iq,bT]at hr;obtain⟨rfl,_,_⟩:=hr;have hlen:∀ (ts:List TypeId) (vs:List Value) (ds:List (DataW H)) (ps:List MemPlace),X6 enc P w 0 (fun _=>true) true ts vs ds ps->ds.length=ts.length:=by
  intro ts
  induction ts with
  |nil=>intro vs ds ps h;obtain⟨_,rfl,_⟩:=trodAll_nil h;rfl
  |cons t ts ih=>intro vs ds ps h;obtain⟨v,vs',d,ds',p,q,rfl,rfl,rfl,_,h2⟩:=trodAll_cons h;simp[ih _ _ _ h2]
 have e1:s.fn H (ds++[])=⟨[.lit (.bool true)],ds,[]⟩:=hspec ds (hlen _ _ _ _ hA);refine⟨_,rfl,ds,[],p++[],[],p,[],hW',?_,?_,?_,hsame.keptBut _,fun h=>by cases h⟩
 ·rw[e1,hrt];exact trodAll_mk1 (shut_bool htb true)
 ·rw[e1];exact qV hl hsame.below _ _ _ _ hread hA (fun x hx=>hW'.lt x (by simpa using hx))
 ·rw[e1,hvars];rfl
end
end Go.V
namespace Go.V
def b8 {a b:Int}(h: -9223372036854775808<=a+b/\a+b<=9223372036854775807):bQ .add Za a b=a+b:=YZ _ h
def eR {a b:Int}(h: -9223372036854775808<=a-b/\a-b<=9223372036854775807):bQ .sub Za a b=a-b:=YZ _ h
def lN {α:Type}{es:List α}{d:α}{i:Nat}(hi:i<es.length):es.take (i+1)=es.take i++[es.getD i d]:=by
 rw[List.take_succ_eq_append_getElem hi,Zm,Zt hi];rfl
def eK {sz:Nat}{es:af}{n:Nat}{new:aT}(h:(es.getD n []).length=new.length):jL (.s sz es) [(n,0)] new=es.set n new:=by
 simp only[jL,kH,rowOf,List.take_zero,Yd,ZK];rw[List.drop_of_length_le Uc,Z4]
def fC {sz:Nat}{es:af}{n o m:Nat}(hn:n<es.length)(hl:o+m<=(es.getD n []).length):∃ rec o',bZ (.s sz es) [(n,o)]=some (rec,o')/\o'+m<=rec.length:=by
 refine⟨es.getD n [],o,?_,hl⟩;rw[lO,Zm,Zt hn];rfl
def EW {z:aT}{es:af}{i:Int}(hr:Wf z es)(h0:0<=i)(h1:i<es.length):mb aj es i 0 z=es.getD i.toNat []:=(abe hr h0 h1).2.2.symm
def MU {a b:Int}:(du .eql a b=true)↔a=b:=by simp[du]
def MS {a b:Int}:(du .eql a b=false)↔a≠b:=by simp[du]
def M4 {a b:Int}:(du .neq a b=true)↔a≠b:=by simp[du]
def M3 {a b:Int}:(du .neq a b=false)↔a=b:=by simp[du]
def M2 {a b:Int}:(du .lss a b=true)↔a<b:=by simp[du]
def M1 {a b:Int}:(du .lss a b=false)↔b<=a:=by simp[du]
def M0 {a b:Int}:(du .leq a b=true)↔a<=b:=by simp[du]
def MZ {a b:Int}:(du .leq a b=false)↔b<a:=by simp[du]
def MY {a b:Int}:(du .gtr a b=true)↔b<a:=by simp[du]
def MX {a b:Int}:(du .gtr a b=false)↔a<=b:=by simp[du]
def MW {a b:Int}:(du .geq a b=true)↔b<=a:=by simp[du]
def MV {a b:Int}:(du .geq a b=false)↔a<b:=by simp[du]
def ahf {b:Bool}:(Jr b=true)↔b=false:=by cases b<;>simp[Jr]
def ahe {b:Bool}:(Jr b=false)↔b=true:=by cases b<;>simp[Jr]
def Jt {a b:Bool}:(Cr .eql a b=true)↔a=b:=by simp[Cr]
def Js {a b:Bool}:(Cr .eql a b=false)↔a≠b:=by simp[Cr]
def Jv {a b:Bool}:(Cr .neq a b=true)↔a≠b:=by simp[Cr]
def Ju {a b:Bool}:(Cr .neq a b=false)↔a=b:=by simp[Cr]
def az {i:Int}:adI 0 i=i.toNat:=ZK _
def nc {n:Nat}:(VJ n:Int)=Int.ofNat n:=rfl
def sa {es:af}:mV es 0 es.length=es:=by simp[mV]
end Go.V
namespace Go.V
def oj:Nat->aT->List Hv
 |_,[]=>[]
 | i,l::ls=>match l with
   | .s sz es=>⟨0,0,some i,.own (.s sz es)⟩::oj (i+1) ls
   | .v x=>⟨0,0,none,.own (.v x)⟩::oj i ls
   | .g=>⟨0,0,none,.own .g⟩::oj i ls
   | .m kb es=>⟨0,0,none,.own (.m kb es)⟩::oj i ls
def Bq (O:zW):Nat->Nat->List DV->List W
 |_,_,[]=>[]
 |p,i,d::ds=>.root p false (oj i (bu d)):: .reg p (DG O p 0 d)::Bq O (p+1) (i+(slL (bu d)).length) ds
def GY (O:zW)(ds:List DV):VS:=push [] (Bq O 0 0 ds)
def Qx {α:Type}(pr:(Unit->Prop)->Prop)(os:Nat->L):List (Nat×Nat)->Nat->Rd α->Rd α
 |[],_,k=>k
 | (r,j)::ps,i,k=>gD r j fun h=>match h.org with
  | some i'=>if ZL i' i then match h.c with
    | .own (.s sz es)=>.req (pr fun _=>L.s sz es=os i) (Qx pr os ps (i+1) k)
    |_=>.fail
    else .fail
  |none=>.fail
def HP (T:vK)(O:zW)(ts:List TypeId)(rvs:List ResultVar)(locs:List (Nat×Nat))(σ:VS)(res:List DV)(outs:Nat->L):Prop:=
 (yr T O ts rvs fun ds srcs=>if bG (srcs++locs)then .req (O.pr fun _=>ds=res) (Qx O.pr outs locs 0 (.ret ()))else .fail).wpU (get σ) [] fun _ _=>True
def acK (T:vK)(O:zW)(ts:List TypeId)(rvs:List ResultVar)(locs:List (Nat×Nat))(res:List DV)(outs:Nat->L):Ex->VS->Prop
 | .normal,σ=>HP T O ts rvs locs σ res outs
 | .ret,σ=>HP T O ts rvs locs σ res outs
 | .exit _,_=>False
section
variable {P: Program} {cx: Cx} {G: Gh} {g: Gm} {a: Act} {w: World}
def sT:∀ {ls:aT} {vs:List Value} {i:Nat},vs.length=ls.length->(∀ k v,(Cv ls vs)[k]?=some v->cx.anc (i+k)=v)->∀ (j:Nat) (h:Hv),(oj i ls)[j]?=some h->
 ∃ l v og,ls[j]?=some l/\vs[j]?=some v/\h=⟨0,0,og,.own l⟩/\eF cx h.c h.org v
 |[],vs,i,_,_,j,h,e=>by simp[oj]at e
 |l::ls,[],i,hl,_,j,h,e=>by simp at hl
 | l::ls,v::vs,i,hl,ha,j,h,e=>by
   cases l with
   | s sz es=>
     simp only[oj]at e;cases j with
     | zero=>
       simp at e;subst e;refine⟨_,v,some i,rfl,rfl,rfl,fun k hk=>?_⟩;cases hk;exact(ha 0 v (by simp[Cv])).symm
     | succ j=>
       obtain⟨l,v',og,e1,e2,e3,e4⟩:=sT (ls:=ls) (vs:=vs) (i:=i+1) (by simpa using hl) (fun k v hk=>by rw[show i+1+k=i+(k+1)from by omega];exact ha (k+1) v (by simpa[Cv]using hk)) j h (by simpa using e);exact⟨l,v',og,by simpa using e1,by simpa using e2,e3,e4⟩
   | v x=>
     simp only[oj]at e;cases j with
     |zero=>simp at e;subst e;exact⟨_,v,none,rfl,rfl,rfl,eF.none⟩
     | succ j=>
       obtain⟨l,v',og,e1,e2,e3,e4⟩:=sT (ls:=ls) (vs:=vs) (i:=i) (by simpa using hl) (fun k v hk=>ha k v (by simpa[Cv]using hk)) j h (by simpa using e);exact⟨l,v',og,by simpa using e1,by simpa using e2,e3,e4⟩
   | g=>
     simp only[oj]at e;cases j with
     |zero=>simp at e;subst e;exact⟨_,v,none,rfl,rfl,rfl,eF.none⟩
     | succ j=>
       obtain⟨l,v',og,e1,e2,e3,e4⟩:=sT (ls:=ls) (vs:=vs) (i:=i) (by simpa using hl) (fun k v hk=>ha k v (by simpa[Cv]using hk)) j h (by simpa using e);exact⟨l,v',og,by simpa using e1,by simpa using e2,e3,e4⟩
   | m kb es=>
     simp only[oj]at e;cases j with
     |zero=>simp at e;subst e;exact⟨_,v,none,rfl,rfl,rfl,eF.none⟩
     | succ j=>
       obtain⟨l,v',og,e1,e2,e3,e4⟩:=sT (ls:=ls) (vs:=vs) (i:=i) (by simpa using hl) (fun k v hk=>ha k v (by simpa[Cv]using hk)) j h (by simpa using e);exact⟨l,v',og,by simpa using e1,by simpa using e2,e3,e4⟩
def Il {ls:aT}{i j:Nat}{l:L}(h:ls[j]?=some l):∃ og,(oj i ls)[j]?=some ⟨0,0,og,.own l⟩:=by
 induction ls generalizing i j with
 |nil=>simp at h
 | cons x ls ih=>
   cases j with
   |zero=>simp at h;subst h;cases x<;>exact⟨_,rfl⟩
   | succ j=>
     simp at h;cases x with
     |s sz es=>obtain⟨og,e⟩:=ih (i:=i+1) h;exact⟨og,by simpa[oj]using e⟩
     |v y=>obtain⟨og,e⟩:=ih (i:=i) h;exact⟨og,by simpa[oj]using e⟩
     |g=>obtain⟨og,e⟩:=ih (i:=i) h;exact⟨og,by simpa[oj]using e⟩
     |m _ _=>obtain⟨og,e⟩:=ih (i:=i) h;exact⟨og,by simpa[oj]using e⟩
def yF:∀ {ls:aT} {vs:List Value},vs.length=ls.length->(Cv ls vs).length=(slL ls).length
 |[],[],_=>rfl
 |[],_::_,h=>by simp at h
 |_::_,[],h=>by simp at h
 | l::ls,v::vs,h=>by
   have ih:=yF (ls:=ls) (vs:=vs) (by simpa using h);cases l<;>simp[Cv,slL,ih]
def Li {a:Act}{p:Nat}{v:Value}(hp:p<a.tmps.size)(h:a.tmps.getD p undef=v):a.put (some p) v=a:=by
 obtain⟨t,d⟩:=a;simp only[ZI]at*
 congr 1
 apply Array.ext_getElem?;intro i;rw[Array.getElem?_setIfInBounds];by_cases e:p=i
 ·subst e;rw[VO rfl,VO hp];rw[<-h,Yt,Xq hp];rfl
 ·rw[VP e]
def xX:∀ (ds:List DV) (p i:Nat) (vs:List Value) (S:List Nat) (g:Gm) (G:Gh),aP cx G g a w->(∀ r,p<=r->g (.meta_ r)=none)->b9 w ds vs S->S.Nodup->
 (∀ b∈S,eH w b/\G.ow b=some (.leaf cx.n 0))->p+ds.length<=cx.n->(∀ k v,vs[k]?=some v->a.tmps.getD (p+k) undef=v)->(∀ k v,(gM ds vs)[k]?=some v->cx.anc (i+k)=v)->
 eG cx (aV g (Bq aj p i ds)) a w
 |[],p,i,vs,S,g,G,hS,_,_,_,_,_,_,_=>⟨G,hS⟩
 | d::ds,p,i,vs,S,g,G,hS,hm,hr,hnd,htok,hn,hv,ha=>by
   simp only[b9]at hr;obtain⟨v,vs',S1,S2,rfl,h1,h2,rfl⟩:=hr;rw[List.nodup_append]at hnd;obtain⟨n1,n2,n3⟩:=hnd;obtain⟨lv,q1,q2,q3,q4⟩:∃ lv,ai w (bu d) lv S1/\(∀ dl,d=.one dl->lv=[v])/\(∀ dls,d=.agg dls->v=.agg lv.toArray)/\gM (d::ds) (v::vs')=Cv (bu d) lv++gM ds vs':=by
    cases d with
    |one l=>exact⟨[v],by simp only[bu,ai];exact⟨v,[],S1,[],rfl,h1,⟨rfl,rfl⟩,by simp⟩,fun _ _=>rfl,(fun _ e=>by cases e),rfl⟩
    |agg ls=>obtain⟨us,rfl,h1'⟩:=h1;exact⟨us,h1',(fun _ e=>by cases e),(fun _ e=>by cases e;rfl),by simp[gM,bu]⟩
    |_=>exact h1.elim
   obtain⟨Ss,s1,s2,s3⟩:=q1.items;have hlen:=q1.length;have ha1:∀ k v,(Cv (bu d) lv)[k]?=some v->cx.anc (i+k)=v:=by
    intro k u hk;refine ha k u ?_;rw[q4,ZQ (ZB.1 hk).1];exact hk
   have hat:=fun j h=>sT (cx:=cx) (ls:=bu d) (vs:=lv) (i:=i) hlen ha1 j h
   have hnone:gl g cx.n 0=none:=by
    cases e:gl g cx.n 0 with
    |none=>rfl
    | some y=>
      obtain⟨_,k,bx,_,e2,_⟩:=hS.leaf cx.n 0 _ (av.1 e);rw[hm cx.n (by simp at hn;omega)]at e2;cases e2
   obtain⟨G',k1,k2,_,_,k5⟩:=hS.newRoot (hm p (Ze _)) false (oj i (bu d)) w (Same.refl _ _) (fun j=>lv.getD j undef) (fun j=>Ss.getD j [])
    (by
      intro j h hj;obtain⟨l,u,og,e1,e2,e3,_⟩:=hat j h hj;obtain⟨u',z1,z2⟩:=s3 j l e1;rw[e3];simp only[El];refine⟨by simpa[ZD,z1]using z2,hE (by rw[s1];exact n1) j,fun b hb=>?_⟩;have:=htok b (Zh.2 (.inl (by rw[<-s1];exact d9 hb)));exact⟨this.1,.inr ⟨cx.n,0,this.2,fun h l e=>by rw[hnone]at e;cases e⟩⟩)
    (by
      intro j h hj;obtain⟨l,u,og,e1,e2,e3,e4⟩:=hat j h hj;have:lv.getD j undef=u:=by simp[ZD,e2]
      rw[this];exact e4)
    (fun i j _ _ hij=>fa (by rw[s1];exact n1) i j hij) 0 0 (by simp)
   have hpn:p<cx.n:=by simp at hn;omega
   have hg:∀ j l,(bu d)[j]?=some l->∃ og,gl ((W.root p false (oj i (bu d))).app g) p (0+j)=some ⟨0,0,og,.own l⟩:=by
    intro j l e;obtain⟨og,e2⟩:=Il (i:=i) e;exact⟨og,by simp[gl,W.app,e2]⟩
   have hrok:cV (gl ((W.root p false (oj i (bu d))).app g)) G' w (DF p 0 d) v:=by
    refine Hy h1 hg ?_;intro lv' z1 z2 z3 j u e;have:lv'=lv:=by
     cases d with
     |one l=>rw[z2 l rfl,q2 l rfl]
     |agg ls=>have e1:=z3 ls rfl;rw[q3 ls rfl]at e1;simpa using e1.symm
     |_=>exact h1.elim
    subst this;rw[k2,ZK];simp[ZD,e]
   have hput:=k1.put hpn hrok;have hself:a.put (some p) v=a:=Li (by rw[hS.tm];exact hpn) (by have:=hv 0 v (by simp);simpa using this);rw[hself]at hput;simp only[Bq,aV,yt];refine xX ds (p+1) _ vs' S2 _ G' hput ?_ h2 n2 ?_ (by simp at hn;omega) ?_ ?_
   ·intro r hr;simp only[W.app];rw[VP (by intro e;cases e),VP Uc];exact hm r Uc
   ·intro b hb;have:=htok b (Zh.2 (.inr hb));refine⟨this.1,?_⟩;rw[k5 b (by simp) (fun j _ hbj=>n3 b (by rw[<-s1];exact d9 hbj) b hb rfl)];exact this.2
   ·intro k u e;rw[show p+1+k=p+(k+1)from by omega];exact hv (k+1) u (by simpa using e)
   ·intro k u e;have hsl:=yF hlen;rw[show i+(slL (bu d)).length+k=i+((Cv (bu d) lv).length+k)from by rw[hsl];omega];refine ha _ u ?_;rw[q4,ZO Uc]
    simpa using e
end
end Go.V
namespace Go.V
def aeJ {Φ:Type}(_:Φ):MT:=fun _=>none
def noC {Φ:Type}(_:Φ):CT:=fun _ _=>none
section
variable {P: Program} {T: vK} {cx: Cx} {G: Gh} {g: Gm} {a: Act} {w: World}
def H9 (n:Nat)(w:World)(ds:List DV)(vs:List Value)(S:List Nat)(hr:b9 w ds vs S)(hnd:S.Nodup)(hunf:∀ b∈S,eH w b)(hn:ds.length<=n):
 eG ⟨n,w,fun b=>b∉S,fun i=>(gM ds vs).getD i undef,fun _=>none,fun _=>0,fun _=>True⟩ (get (GY aj ds)) {tmps:=vs.toArray++YQ (n-vs.toArray.size) undef,defers:=[]} w:=by
 have hlen:∀ (ds:List DV) (vs:List Value) (S:List Nat),b9 w ds vs S->vs.length=ds.length:=by
  intro ds
  induction ds with
  |nil=>intro vs S h;simp only[b9]at h;simp[h.1]
  |cons d ds ih=>intro vs S h;simp only[b9]at h;obtain⟨v,vs',S1,S2,rfl,_,h2,_⟩:=h;simp[ih _ _ h2]
 have hl:=hlen ds vs S hr
 open Classical in
 let G:Gh:={loc:=fun _=>none,val:=fun _ _=>undef,fp:=fun _ _=>[],ow:=fun b=>if b∈S then some (.leaf n 0)else if b<w.heap.size then some .ro else none,lead:=id}
 unfold GY;rw[xP];refine xX ds 0 0 vs S (get []) G ?_ (fun _ _=>rfl) hr hnd (fun b hb=>⟨hunf b hb,by simp[G,hb]⟩) (by simp;omega) ?_ ?_
 ·refine⟨rfl,by simp;omega,?_,?_,?_,?_,?_,?_,Same.refl _ _,?_,?_,?_,(fun r b o e=>by cases e),(fun r1 r2 k1 k2 b o1 o2 _ e=>by simp[get]at e),(fun r b o e=>by cases e),fun _ _=>trivial⟩
  ·intro d x hx;cases hx
  ·intro r k hk;cases hk
  ·intro r j x hx;cases hx
  ·intro r x hx;cases hx
  ·intro r b hb;cases hb
  ·intro b t hb;by_cases c:b∈S;exact(hunf b c).lt
   ·by_cases c2:b<w.heap.size;exact c2
    ·simp[G,c,c2]at hb
  ·intro b hb hf;have hf:b∉S:=hf;have hb:b<w.heap.size:=hb
   right;simp[G,hf,hb]
  ·intro r j h e;simp[gl,get]at e
  ·intro r x e;cases e
 ·intro k v e;have hk:k<vs.length:=(ZB.1 e).1;simp only[ZK,Yt];rw[XZ (by simpa using hk)];simp[e]
 ·intro k v e;simp only[ZK,Zm,e];rfl
def qt {fn:Func}{tmps:Array Value}{w':World}{vs':List Value}{ds':List DV}{S:List Nat}(k1:(fn.results.toList.mapM (pS tmps)).run P w'=.ok vs' w')(k2:b9 w' ds' vs' S):
 ∃ v,(results fn tmps).run P w'=.ok v w'/\gy w' ds' v S:=by
 have hrun:(results fn tmps).run P w'=.ok (if h:vs'.toArray.size=1 then vs'.toArray[0]else .tuple vs'.toArray) w':=by
  rw[yu,Array.mapM_eq_mapM_toList (m:=Sem)];simp only[Sem.run_bind,Sem.run_map,k1,Result.andThen_ok,Sem.run_pure]
 refine⟨_,hrun,?_⟩;have hl:∀ {ds:List DV} {vs:List Value} {S:List Nat},b9 w' ds vs S->vs.length=ds.length:=by
  intro ds
  induction ds with
  |nil=>intro vs S h;simp only[b9]at h;simp[h.1]
  |cons d ds ih=>intro vs S h;simp only[b9]at h;obtain⟨v,vs',S1,S2,rfl,_,h2,_⟩:=h;simp[ih h2]
 have hlen:=hl k2;cases ds' with
 | nil=>
   have:vs'=[]:=Yv hlen;subst this;exact⟨[],by simp,k2⟩
 | cons d1 rest=>
   cases rest with
   | nil=>
     simp only[b9]at k2;obtain⟨v,vs'',S1,S2,rfl,q1,⟨rfl,rfl⟩,rfl⟩:=k2
     simpa[gy]using q1
   | cons d2 rest=>
     have:¬ vs'.toArray.size=1:=by simp at hlen;simp;omega
     rw[dif_neg this];exact⟨vs',rfl,k2⟩
def Od {Φ:Type}{F:Φ}:CB P (aeJ F):=by intro f mk h;cases h
def aaH {Φ:Type}{F:Φ}:zu P (noC F):=by intro f ds pre res h;cases h
end
end Go.V
namespace Go.V
abbrev PT :=FuncId->Option PK
abbrev NT :=FuncId->Option NK
abbrev OT :=FuncId->Option RG
def aeL {Φ:Type}(_:Φ):OT:=fun _=>none
def Of {P:Program}{Φ:Type}{F:Φ}:CE P (aeL F):=by intro f mk h;cases h
def aeK {Φ:Type}(_:Φ):NT:=fun _=>none
def Oe {P:Program}{Φ:Type}{F:Φ}:CC P (aeK F):=by intro f mk h;cases h
def aeM {Φ:Type}(_:Φ):PT:=fun _=>none
def Og {P:Program}{Φ:Type}{F:Φ}:CF P (aeM F):=by intro f mk h;cases h
def ae0 (al:Bool)(r j:Nat):Option Nat:=match al with
 |true=>some (1000000000+(r*1000+j))
 |false=>none
def GX (al:Bool)(r:Nat):Nat->List H->List Hv
 |_,[]=>[]
 |j,.own l::hs=>⟨0,0,ae0 al r j,.own l⟩::GX al r (j+1) hs
 |j,h::hs=>⟨0,0,some (r*1000+j),h⟩::GX al r (j+1) hs
def fc (al:Bool):Nat->List DV->VS
 |_,[]=>[]
 |p,.mp hs::ds=>.reg p (.one (.pt p 0)):: .root p true (GX al p 0 hs)::fc al (p+1) ds
 |p,d::ds=>.reg p (nQ d)::fc al (p+1) ds
def mpL:Nat->List DV->List (Nat×List H)
 |_,[]=>[]
 |p,.mp hs::ds=>(p,hs)::mpL (p+1) ds
 |p,_::ds=>mpL (p+1) ds
def im:Nat->List DV->List ga->Nat->Option ga
 |p,.mp _::ds,q::ps,r=>if r=p then some q else im (p+1) ds ps r
 |_,.mp _::_,[],_=>none
 |p,_::ds,ps,r=>im (p+1) ds ps r
 |_,[],_,_=>none
def E4 {al:Bool}{r:Nat}:∀ {hs:List H} {j i:Nat} {h:Hv},(GX al r j hs)[i]?=some h->∃ c,hs[i]?=some c/\h.ver=0/\h.iv=0/\h.c=c/\(∀ l,c=.own l->h.org=ae0 al r (j+i))/\((∀ l,c≠ .own l)->h.org=some (r*1000+(j+i)))
 |[],j,i,h,e=>by simp[GX]at e
 | c::hs,j,i,h,e=>by
   cases i with
   | zero=>
     cases c with
     |own l=>simp[GX]at e;subst e;exact⟨_,rfl,rfl,rfl,rfl,fun _ _=>rfl,fun k=>absurd rfl (k l)⟩
     |ro l=>simp[GX]at e;subst e;exact⟨_,rfl,rfl,rfl,rfl,(fun _ k=>by cases k),fun _=>rfl⟩
     |gone=>simp[GX]at e;subst e;exact⟨_,rfl,rfl,rfl,rfl,(fun _ k=>by cases k),fun _=>rfl⟩
   | succ i=>
     have:(GX al r (j+1) hs)[i]?=some h:=by cases c<;>simpa[GX]using e
     obtain⟨c',q1,q2,q3,q4,q5,q6⟩:=E4 this;exact⟨c',by simpa using q1,q2,q3,q4,fun l k=>by rw[q5 l k];congr 1;omega,fun k=>by rw[q6 k];congr 2;omega⟩
def xV {al:Bool}{r:Nat}:∀ {hs:List H} {j:Nat},(GX al r j hs).length=hs.length
 |[],_=>rfl
 |c::hs,j=>by cases c<;>simp[GX,xV (hs:=hs)]
section
variable {P: Program} {T: vK} {w: World} {ok: Nat -> Prop}
def gx.length:∀ {ds:List DV} {vs:List Value} {ps:List ga},gx w ok ds vs ps->vs.length=ds.length
 |[],vs,ps,h=>by simp only[gx]at h;simp[h.1]
 | d::ds,vs,ps,h=>by
   cases d with
   |mp hs=>obtain⟨p,ps',vs',rfl,rfl,_,h⟩:=h;simp[h.length]
   |one l=>obtain⟨v,vs',S,rfl,_,_,h⟩:=h;simp[gx.length h]
   |agg l=>obtain⟨v,vs',S,rfl,_,_,h⟩:=h;simp[gx.length h]
   |ptr l=>obtain⟨v,vs',S,rfl,_,_,h⟩:=h;simp[gx.length h]
   |fn f l=>obtain⟨v,vs',S,rfl,_,_,h⟩:=h;simp[gx.length h]
def La:∀ {ds:List DV} {ps:List ga} {p r:Nat} {q:ga},im p ds ps r=some q->p<=r/\r<p+ds.length
 |[],ps,p,r,q,h=>by simp[im]at h
 | d::ds,ps,p,r,q,h=>by
   have step:∀ ps,im (p+1) ds ps r=some q->p<=r/\r<p+(d::ds).length:=fun ps h=>by
    have:=La h;simp;omega
   cases d with
   | mp hs=>
     cases ps with
     |nil=>simp[im]at h
     | cons q' ps=>
       simp only[im]at h;split at h
       ·simp;omega
       ·exact step _ h
   |_=>exact step ps h
def rG:∀ {ds:List DV} {vs:List Value} {ps:List ga} {p r:Nat} {q:ga},gx w ok ds vs ps->(im p ds ps r=some q↔∃ k:Nat,(mpL p ds)[k]?=some (r,q.hs)/\ps[k]?=some q)
 |[],vs,ps,p,r,q,ha=>by simp[im,mpL]
 | d::ds,vs,ps,p,r,q,ha=>by
   have mge:∀ {ds:List DV} {p k:Nat} {x:Nat×List H},(mpL p ds)[k]?=some x->p<=x.1:=by
    intro ds
    induction ds with
    |nil=>intro p k x h;simp[mpL]at h
    | cons d ds ih=>
      intro p k x h;cases d with
      | mp hs=>
        simp only[mpL]at h;cases k with
        |zero=>simp at h;subst h;exact Ze _
        |succ k=>simp at h;have:=ih h;omega
      |_=>have:=ih (p:=p+1) h;omega
   cases d with
   | mp hs=>
     obtain⟨p0,ps',vs',rfl,rfl,e,ha⟩:=ha;have ih:=rG (p:=p+1) (r:=r) (q:=q) ha;simp only[im,mpL]
     constructor
     ·intro h;split at h
      ·rename_i c;cases h;exact⟨0,by simp[c,e],by simp⟩
      ·obtain⟨k,h1,h2⟩:=ih.1 h;exact⟨k+1,by simpa using h1,by simpa using h2⟩
     ·rintro⟨k,h1,h2⟩;cases k with
      |zero=>simp at h1 h2;rw[VO h1.1.symm];rw[h2]
      | succ k=>
        simp at h1 h2;have:=mge h1;rw[VP (by simp only at this;omega)];exact ih.2 ⟨k,h1,h2⟩
   |one l=>obtain⟨v,vs',S,rfl,_,_,ha⟩:=ha;exact rG (p:=p+1) ha
   |agg l=>obtain⟨v,vs',S,rfl,_,_,ha⟩:=ha;exact rG (p:=p+1) ha
   |ptr l=>obtain⟨v,vs',S,rfl,_,_,ha⟩:=ha;exact rG (p:=p+1) ha
   |fn f l=>obtain⟨v,vs',S,rfl,_,_,ha⟩:=ha;exact rG (p:=p+1) ha
def rD {al:Bool}:∀ {ds:List DV} {vs:List Value} {ps:List ga} (p:Nat),gx w ok ds vs ps->
 (∀ r,get (fc al p ds) (.meta_ r)=(im p ds ps r).map fun q=>.m q.hs.length true)/\
 (∀ r j,get (fc al p ds) (.leaf r j)=(im p ds ps r).bind fun q=>((GX al r 0 q.hs)[j]?).map .h)/\
 (∀ d x,get (fc al p ds) (.reg d)=some x->∃ i,d=p+i/\i<vs.length/\((∃ q,im p ds ps d=some q/\x=.r (.one (.pt d 0))/\vs[i]?=some (.pointer (some ⟨q.b,q.off,none⟩)))\/(∃ dv v S,x=.r (nQ dv)/\vs[i]?=some v/\mX w dv v S/\∀ b∈S,ok b)))
 | [],vs,ps,p,ha=>by
   refine⟨fun r=>rfl,fun r j=>rfl,fun d x h=>by cases h⟩
 | d::ds,vs,ps,p,ha=>by
   have other:∀ (v:Value) (vs':List Value) (S:List Nat),vs=v::vs'->mX w d v S->(∀ b∈S,ok b)->gx w ok ds vs' ps->(∀ r,im p (d::ds) ps r=im (p+1) ds ps r)->fc al p (d::ds)=.reg p (nQ d)::fc al (p+1) ds->
    (∀ r,get (fc al p (d::ds)) (.meta_ r)=(im p (d::ds) ps r).map fun q=>.m q.hs.length true)/\
    (∀ r j,get (fc al p (d::ds)) (.leaf r j)=(im p (d::ds) ps r).bind fun q=>((GX al r 0 q.hs)[j]?).map .h)/\
    (∀ d' x,get (fc al p (d::ds)) (.reg d')=some x->∃ i,d'=p+i/\i<vs.length/\((∃ q,im p (d::ds) ps d'=some q/\x=.r (.one (.pt d' 0))/\vs[i]?=some (.pointer (some ⟨q.b,q.off,none⟩)))\/(∃ dv v S,x=.r (nQ dv)/\vs[i]?=some v/\mX w dv v S/\∀ b∈S,ok b))):=by
    intro v vs' S e h1 h2 h3 h4 h5;subst e;obtain⟨i1,i2,i3⟩:=rD (al:=al) (p+1) h3;rw[h5];refine⟨fun r=>by rw[h4, <-i1];simp[get,W.app],fun r j=>by rw[h4, <-i2];simp[get,W.app],fun d' x hx=>?_⟩;simp only[get,W.app]at hx;split at hx
    ·rename_i c;cases c;cases hx;exact⟨0,rfl,by simp,.inr ⟨d,v,S,rfl,rfl,h1,h2⟩⟩
    ·obtain⟨i,e1,e2,e3⟩:=i3 d' x hx;refine⟨i+1,Uc,by simpa using e2,?_⟩;rw[h4];rcases e3 with⟨q,k1,k2,k3⟩|⟨dv,v',S',k1,k2,k3,k4⟩;exact .inl ⟨q,k1,k2,by simpa using k3⟩;exact .inr ⟨dv,v',S',k1,by simpa using k2,k3,k4⟩
   cases d with
   | mp hs=>
     obtain⟨q,ps',vs',rfl,rfl,e,ha⟩:=ha;obtain⟨i1,i2,i3⟩:=rD (al:=al) (p+1) ha;subst e;have hp:im (p+1) ds ps' p=none:=by
      cases h:im (p+1) ds ps' p with
      |none=>rfl
      |some q=>have:=La h;omega
     refine⟨fun r=>?_,fun r j=>?_,fun d' x hx=>?_⟩
     ·simp only[fc,get,W.app,im];by_cases c:r=p
      ·subst c;simp[xV]
      ·simp[c,i1]
     ·simp only[fc,get,W.app,im];by_cases c:r=p
      ·subst c;simp
      ·simp[c,i2]
     ·simp only[fc,get,W.app]at hx;split at hx
      ·rename_i c;cases c;cases hx;exact⟨0,rfl,by simp,.inl ⟨q,by simp[im],rfl,rfl⟩⟩
      ·rename_i c;obtain⟨i,e1,e2,e3⟩:=i3 d' x hx;refine⟨i+1,Uc,by simpa using e2,?_⟩;have hne:d'≠p:=by omega
       rcases e3 with⟨q',k1,k2,k3⟩|⟨dv,v',S',k1,k2,k3,k4⟩;exact .inl ⟨q',by simp only[im];rw[VP hne];exact k1,k2,by simpa using k3⟩;exact .inr ⟨dv,v',S',k1,by simpa using k2,k3,k4⟩
   |one l=>obtain⟨v,vs',S,e,h1,h2,h3⟩:=ha;exact other v vs' S e h1 h2 h3 (fun _=>rfl) rfl
   |agg l=>obtain⟨v,vs',S,e,h1,h2,h3⟩:=ha;exact other v vs' S e h1 h2 h3 (fun _=>rfl) rfl
   |ptr l=>obtain⟨v,vs',S,e,h1,h2,h3⟩:=ha;exact other v vs' S e h1 h2 h3 (fun _=>rfl) rfl
   |fn f l=>obtain⟨v,vs',S,e,h1,h2,h3⟩:=ha;exact other v vs' S e h1 h2 h3 (fun _=>rfl) rfl
open Classical in
def Ia {al:Bool}(n:Nat)(w:World)(ds:List DV)(vs:List Value)(ps:List ga)(h:RH w ds vs ps)(hn:ds.length<=n)(anc:Nat->Value)(hanc:∀ r q j l,im 0 ds ps r=some q->q.hs[j]?=some (.ro l)->anc (r*1000+j)=q.val j)(hanc2:∀ r q j l,al=true->im 0 ds ps r=some q->q.hs[j]?=some (.own l)->anc (1000000000+(r*1000+j))=q.val j):
 ∃ G,aP ⟨n,w,fun b=>¬ mD ps b/\¬ qI ps b,anc,fun r=>(im 0 ds ps r).map fun q=>(q.b,q.off),fun r=>((im 0 ds ps r).map fun q=>q.hs.length).getD 0,fun _=>True⟩ G (get (fc al 0 ds)) {tmps:=vs.toArray++YQ (n-vs.toArray.size) undef,defers:=[]} w:=by
 have hl:=h.args.length;obtain⟨i1,i2,i3⟩:=rD (al:=al) 0 h.args;have ix:=fun {r q}=>rG (p:=0) (r:=r) (q:=q) h.args
 have mem:∀ {r q},im 0 ds ps r=some q->q∈ps:=fun e=>by
  obtain⟨k,_,e2⟩:=ix.1 e;exact List.mem_of_getElem? e2
 have isO:∀ b,mD ps b->∃ x:Nat×Nat,∃ q l,im 0 ds ps x.1=some q/\q.hs[x.2]?=some (.own l)/\b∈q.fp x.2:=by
  rintro b ⟨q,hq,j,l,h1,h2⟩;obtain⟨k,hk⟩:=List.getElem?_of_mem hq;have hlen:∀ {ds:List DV} {vs:List Value} {ps:List ga} {p:Nat},gx w (fun b=>¬ mD ps b/\¬ qI ps b) ds vs ps->True:=fun _=>trivial
  have key:∀ (ok:Nat->Prop) (ds:List DV) (vs:List Value) (ps:List ga) (p k:Nat) (q:ga),gx w ok ds vs ps->ps[k]?=some q->∃ r,(mpL p ds)[k]?=some (r,q.hs):=by
   intro ok ds
   induction ds with
   |nil=>intro vs ps p k q h e;simp only[gx]at h;rw[h.2]at e;simp at e
   | cons d ds ih=>
     intro vs ps p k q h e;cases d with
     | mp hs=>
       obtain⟨p0,ps',vs',rfl,rfl,e0,h⟩:=h;cases k with
       |zero=>simp at e;subst e;exact⟨p,by simp[mpL,e0]⟩
       |succ k=>simp at e;obtain⟨r,hr⟩:=ih vs' ps' (p+1) k q h e;exact⟨r,by simpa[mpL]using hr⟩
     |one l=>obtain⟨v,vs',S,rfl,_,_,h⟩:=h;exact ih vs' ps (p+1) k q h e
     |agg l=>obtain⟨v,vs',S,rfl,_,_,h⟩:=h;exact ih vs' ps (p+1) k q h e
     |ptr l=>obtain⟨v,vs',S,rfl,_,_,h⟩:=h;exact ih vs' ps (p+1) k q h e
     |fn f l=>obtain⟨v,vs',S,rfl,_,_,h⟩:=h;exact ih vs' ps (p+1) k q h e
  obtain⟨r,hr⟩:=key _ ds vs ps 0 k q h.args hk;exact⟨(r,j),q,l,ix.2 ⟨k,hr,hk⟩,h1,h2⟩
 let G:Gh:={
  loc:=fun r=>(im 0 ds ps r).map fun q=>(q.b,q.off)
  val:=fun r j=>((im 0 ds ps r).map fun q=>q.val j).getD undef
  fp:=fun r j=>((im 0 ds ps r).map fun q=>q.fp j).getD []
  ow:=fun b=>if ho:mD ps b then some (.leaf (isO b ho).choose.1 (isO b ho).choose.2)else if qI ps b then some (.box b)else if b<w.heap.size then some .ro else none
  lead:=fun r=>((im 0 ds ps r).map fun q=>q.b).getD 0}
 have ixne:∀ {r r' q q'},im 0 ds ps r=some q->im 0 ds ps r'=some q'->r≠r'->∃ k k':Nat,k≠k'/\ps[k]?=some q/\ps[k']?=some q':=by
  intro r r' q q' e1 e2 hne;obtain⟨k,a1,a2⟩:=ix.1 e1;obtain⟨k',b1,b2⟩:=ix.1 e2;refine⟨k,k',fun e=>?_,a2,b2⟩;subst e;have h:=a1.symm.trans b1;simp at h;exact hne h.1
 have owO:∀ r j q l,im 0 ds ps r=some q->q.hs[j]?=some (.own l)->∀ b∈q.fp j,G.ow b=some (.leaf r j):=by
  intro r j q l e1 e2 b hb;have ho:mD ps b:=⟨q,mem e1,j,l,e2,hb⟩;simp only[G,dif_pos ho];obtain⟨q',l',f1,f2,f3⟩:=(isO b ho).choose_spec;generalize(isO b ho).choose=x at*;by_cases c:x.1=r
  ·rw[c,e1]at f1;cases f1;by_cases cj:x.2=j
   ·rw[c,cj]
   ·obtain⟨k,_,hk⟩:=ix.1 e1;exact absurd hb (h.disj k _ k j q q l' l hk hk f2 e2 (fun e=>cj (by cases e;rfl)) b f3)
  ·obtain⟨k,k',hne,hk,hk'⟩:=ixne f1 e1 c;exact absurd hb (h.disj k _ k' j q' q l' l hk hk' f2 e2 (fun e=>hne (by cases e;rfl)) b f3)
 have owP:∀ b,qI ps b->G.ow b=some (.box b):=by
  intro b hb;simp only[G,dif_neg (h.box b hb),VO hb]
 have owR:∀ b,b<w.heap.size->¬ mD ps b/\¬ qI ps b->G.ow b=some .ro:=by
  intro b hb ⟨h1,h2⟩;simp only[G,dif_neg h1,VP h2,VO hb]
 have cellq:∀ {r q},im 0 ds ps r=some q->∃ cur ty,w.heap[q.b]?=some (.cells cur ty (0,0))/\q.off+q.hs.length<=cur.size/\∀ j,j<q.hs.length->cur[q.off+j]?=some (q.val j):=fun e=>h.cell _ (mem e)
 refine⟨G,rfl,by simp;omega,?_,?_,?_,?_,?_,?_,Same.refl _ _,?_,?_,?_,?_,?_,?_,fun _ _=>trivial⟩
 ·intro d x hx;obtain⟨i,rfl,e2,e3⟩:=i3 d x hx;have hv:∀ v,vs[i]?=some v->(vs.toArray++YQ (n-vs.toArray.size) undef).getD (0+i) undef=v:=by
   intro v hv;simp only[Yt,ZK];rw[XZ (by simpa using e2)];simp[hv]
  refine⟨by show 0+i<n;omega,?_⟩;rcases e3 with⟨q,k1,k2,k3⟩|⟨dv,v,S,k1,k2,k3,k4⟩
  ·refine⟨_,k2,?_⟩;simp only[cV,io];exact⟨q.b,q.off,by simp only[G,k1,Yk],hv _ k3⟩
  ·refine⟨_,k1,?_⟩;simp only;rw[hv _ k2];have tok:∀ b∈S,b<w.heap.size->G.ow b=some .ro:=fun b hb hlt=>owR b hlt (k4 b hb)
   cases dv with
   | one l=>
     simp only[nQ,cV];have:=pT (γ:=gl (get (fc al 0 ds))) (G:=G) [l] [v] S (by simp only[ai];exact⟨v,[],S,[],rfl,k3,⟨rfl,rfl⟩,by simp⟩) (fun b hb=>tok b hb (bT.lt _ _ _ k3 b hb));simp only[ZZ,List.map_nil,ce]at this;obtain⟨v',vs'',e,h3,_⟩:=this;cases e;exact h3
   | agg lls=>
     obtain⟨us,e,h1⟩:=k3;simp only[nQ,cV];exact⟨us,e,pT _ _ S h1 (fun b hb=>tok b hb (ai.lt _ _ _ h1 b hb))⟩
   | ptr rec=>
     obtain⟨b,off,cur,ty,fz,S',e1,e2,e3,e4,rfl⟩:=k3;simp only[nQ,cV];exact⟨b,off,cur,ty,fz,S',e1,e2,tok b (by simp) (ZE.1 e2).1,e3,e4,fun c hc=>tok c (by simp[hc]) (ai.lt _ _ _ e4 c hc)⟩
   | fn f caps=>
     obtain⟨us,e,h1⟩:=k3;simp only[nQ,cV];refine⟨us,e,?_⟩;have key:∀ (caps:af) (us:List Value) (S':List Nat),je w caps us S'->(∀ b∈S',b∈S)->dZ G w (caps.map fun rec=>.rp rec 0) us:=by
      intro caps
      induction caps with
      |nil=>intro us S' h _;simp only[je]at h;simp[dZ,h.1]
      | cons r rs ih=>
        intro us S' h hsub;simp only[je]at h;obtain⟨v,vs',S1,S2,rfl,q1,q2,rfl⟩:=h;obtain⟨b,off,cur,ty,fz,S3,e1,e2,e3,e4,rfl⟩:=q1;exact⟨v,vs',rfl,⟨b,off,cur,ty,fz,S3,e1,e2,tok b (hsub b (by simp)) (ZE.1 e2).1,e3,e4,fun c hc=>tok c (hsub c (by simp[hc])) (ai.lt _ _ _ e4 c hc)⟩,ih _ _ q2 (fun b hb=>hsub b (by simp[hb]))⟩
     exact key caps us S h1 (fun b hb=>hb)
   |mp hs=>exact k3.elim
 ·intro r k hk;rw[i1]at hk;cases e:im 0 ds ps r with
  |none=>simp[e]at hk
  | some q=>
    simp[e]at hk;subst hk;obtain⟨cur,ty,f1,f2,f3⟩:=cellq e;refine⟨q.b,q.off,cur,ty,by simp[G,e],?_,f1,f2,fun j hj=>by simp[G,e,f3 j hj]⟩;rw[owP q.b ⟨q,mem e,rfl⟩];simp[G,e]
 ·intro r j x hx;rw[i2]at hx;cases e:im 0 ds ps r with
  |none=>simp[e]at hx
  | some q=>
    simp only[e,YK,ZC]at hx;obtain⟨hv,e1,rfl⟩:=hx;obtain⟨c,k1,k2,k3,k4,k5,k6⟩:=E4 e1;refine⟨hv,q.hs.length,true,rfl,by rw[i1,e];rfl,(ZB.1 k1).1,?_⟩;unfold d4;rw[k4];cases c with
    | own l=>
      obtain⟨m1,m2,m3⟩:=h.own q (mem e) j l k1;simp only[G,e,Yk,Z0];exact⟨m1,m2,fun b hb=>⟨owO r j q l e k1 b hb,m3 b hb⟩⟩
    | ro l=>
      obtain⟨m1,m2⟩:=h.ro q (mem e) j l k1;simp only[G,e,Yk,Z0];exact⟨q.fp j,m1,fun b hb=>owR b (bT.lt _ _ _ m1 b hb) (m2 b hb)⟩
    |gone=>exact absurd k1 (h.gone q (mem e) j)
 ·intro r x hx;rw[i1]at hx;cases e:im 0 ds ps r with
  |none=>simp[e]at hx
  |some q=>simp[e]at hx;exact⟨_,_,hx.symm⟩
 ·intro r b hb;cases e:im 0 ds ps r with
  |none=>simp[G,e]at hb
  |some q=>exact⟨q.hs.length,by rw[i1,e];rfl⟩
 ·intro b t hb;simp only[G]at hb;split at hb
  ·rename_i ho;obtain⟨q,hq,j,l,e1,e2⟩:=ho;exact bT.lt _ _ _ (h.own q hq j l e1).1 b e2
  ·split at hb
   ·rename_i hp;obtain⟨q,hq,rfl⟩:=hp;obtain⟨cur,ty,f1,_⟩:=h.cell q hq;exact(ZE.1 f1).1
   ·split at hb
    ·rename_i c;exact c
    ·cases hb
 ·intro b hb hf;exact .inr (owR b hb hf)
 ·intro r j hv e i hi;rw[av,i2]at e;cases e0:im 0 ds ps r with
  |none=>simp[e0]at e
  | some q=>
    simp only[e0,YK,ZC]at e;obtain⟨hv',e1,e2⟩:=e;cases e2;obtain⟨c,k1,k2,k3,k4,k5,k6⟩:=E4 e1;cases c with
    | own l'=>
      rw[k5 l' rfl]at hi;cases al with
      |false=>cases hi
      | true=>
        cases hi;rw[ZK];show _=anc _;rw[hanc2 r q j l' rfl e0 k1];simp[G,e0]
    | ro l'=>
      rw[k6 (by simp)]at hi;cases hi;rw[ZK];show _=anc _;rw[hanc r q j l' e0 k1];simp[G,e0]
    |gone=>exact absurd k1 (h.gone q (mem e0) j)
 ·intro r x hx;cases e:im 0 ds ps r with
  |none=>simp[e]at hx
  |some q=>exact⟨hx,by rw[i1,e];simp[e]⟩
 ·intro r b off hx;cases e:im 0 ds ps r with
  |none=>simp[e]at hx
  | some q=>
    simp[e]at hx;obtain⟨rfl,rfl⟩:=hx;obtain⟨cur,ty,f1,f2,f3⟩:=cellq e;exact⟨cur,cur,ty,f1,f1,rfl,fun _ _=>rfl⟩
 ·intro r1 r2 k1 k2 b o1 o2 hne h1 h2 q1 q2;rw[i1]at h1 h2;cases e1:im 0 ds ps r1 with
  |none=>simp[e1]at h1
  | some a1=>
    cases e2:im 0 ds ps r2 with
    |none=>simp[e2]at h2
    | some a2=>
      simp[e1]at h1;simp[e2]at h2;simp[G,e1]at q1;simp[G,e2]at q2;obtain⟨rfl,rfl⟩:=q1;obtain⟨q2,rfl⟩:=q2;obtain⟨k,k',hk,m1,m2⟩:=ixne e1 e2 hne;have:=h.sep k k' a1 a2 hk m1 m2 q2.symm;omega
 ·intro r b off hx ha;cases e:im 0 ds ps r with
  |none=>simp[G,e]at hx
  |some q=>simp[e]at ha
end
end Go.V