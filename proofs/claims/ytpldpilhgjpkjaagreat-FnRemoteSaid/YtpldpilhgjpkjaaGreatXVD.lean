/-
  A condition generator for functions on trees of data, part 4 of 5: values in memory, contracts, soundness.
-/
import Derived.Test.YtpldpilhgjpkjaaGreatXVC
import Derived.IntWalk
import Derived.ProofKit
set_option linter.all false
open Go
open Bool renaming false_eq_true->Yj,and_eq_true->Zc,not_eq_true'->Yv,rec->Vq,or_eq_false_iff->Xr,or_eq_true->Z4
open Cell renaming okWide->X2,ok->X3
open Code renaming region->Vt,wp_mono->YP
open DataW renaming trod->Xs,TrodAll->X4
open Int renaming toNat_natCast->ZG
open IntKind renaming i64->Za
open IntWalk renaming i64_in->YZ
open List renaming mem_cons->Zl,any_cons->Xq,range->Zo,flatMap_cons->Y8,filter_filter->WG,filter_congr->XI,mem_range->Yf,range_add->Wr,range_succ->WH,filter_append->XY,filter_eq_nil_iff->XZ,mem_map->ZW,flatMap_append->X0,append_nil->ZY,any_eq_true->YW,getElem?_eq_getElem->Zu,filter_eq_self->WI,length_append->Zf,length_cons->Zj,length_nil->Zk,getD_eq_getElem?_getD->Zm,getElem?_append_left->ZO,getElem?_eq_none->Yc,getElem?_eq_some_iff->ZC,eq_nil_of_length_eq_zero->Yx,getElem?_drop->Zv,drop_drop->Yi,take_append_drop->ZR,length_drop->Zn,foldl_cons->Y3,getElem?_range->Xm,length_range->XW,nil_append->Z0,map_cons->ZT
open List.cons renaming injEq->Vo
open Nat renaming eq_of_beq_eq_true->Z5,beq->ZL,lt_or_ge->Yb,add_zero->Yr,le_refl->Ze,zero_add->ZS,blt->WJ,blt_eq->Vu,ne_of_beq_eq_false->WL,add_mul->Zq,zero_le->ZB,succ_mul->Wu,mul_le_mul_right->ZM
open NatCast renaming natCast->VN
open Option renaming isSome_some->Vp,bind_some->YJ,getD_some->ZZ,map_eq_some_iff->ZA,map_some->Yk,bind_eq_some_iff->X1
open Option.some renaming injEq->Ya
open Prod.mk renaming injEq->XV
open Region renaming binds->Vr,ready->Vs
open Value renaming okWide->YX
open World renaming cell?->Ys
open _root_.Array renaming getElem?_toList->ZX,getD_eq_getD_getElem?->YD,getElem?_eq_getElem->XH,getElem?_eq_some_iff->ZD,replicate->YT
namespace Go.V
section
variable {P: Program} {T: xz} {n: Nat} {g: Gm}
theorem JS (hT:bJ P T){d:Option Tmp}{op:BinOp}{t:TypeId}{x y:Operand}{ls:List Loc}{out:Out}(h:(JR T aj n d op t x y).Runs g ls out):(GH P n d op t x y).Runs g ls out:=by
 unfold JR at h;unfold GH;refine dH ?_ h;intro a ls h;refine dH ?_ h;intro b ls h;cases a with
 | v a=>
   cases b with
   | v b=>
     cases a with
     | int k a=>
       cases b with
       | int k' b=>
         by_cases hk:k=k'
         ·subst hk;cases op<;>first|exact h|(simp only[Iv,E3,Li,E2,vZ,Ii,beq_self_eq_true,if_true,Yj,if_false]at h ⊢;exact h)|(simp only[Iv,E3,Li,E2,vZ,Ii,beq_self_eq_true,if_true,Yj,if_false]at h ⊢;exact⟨trivial,h⟩)|(simp[Iv,E3,Li,E2,Rd.Runs]at h)
         ·cases op<;>first|exact h|(simp[Iv,hk,Rd.Runs]at h)
       |_=>exact h.elim
     | bool a=>
       cases b with
       | bool b=>
         rcases hT.bo t with e|⟨q,e,hb⟩
         ·simp[e,Rd.Runs]at h
         ·cases op<;>first|(simp only[e,hb,Vp,Qn,Bool.true_and,Bool.and_true,if_true]at h ⊢;exact h)|(simp[Qn,Rd.Runs]at h)
       |_=>exact h.elim
     |_=>exact h.elim
   |_=>cases a<;>exact h.elim
 |_=>exact h.elim
theorem Mx {d:Option Tmp}{op:UnOp}{x:Operand}{ls:List Loc}{out:Out}(h:(R0 aj n d op x).Runs g ls out):(vUn n d op x).Runs g ls out:=by
 unfold R0 at h;unfold vUn;refine dH ?_ h;intro a ls h;cases a with
 |v a=>cases op<;>cases a<;>exact h
 |_=>cases op<;>exact h
theorem ID {α:Type}{a:A}{k:Nat->Rd α}{ls:List Loc}{x:α}(h:(Nu aj a k).Runs g ls x):(Lv a k).Runs g ls x:=by
 cases a with
 | vn r j ver iv p lo m=>
   refine dm ?_ h;intro hv ls h
   revert h
   generalize hv.c=c;intro h;cases c with
   | own l=>
     refine cO (fun ls h=>?_) h;obtain⟨hs,h⟩:=h;obtain⟨⟨sz,es⟩,e⟩:=Option.isSome_iff_exists.1 hs;obtain⟨rec,o,f1,f2⟩:=o8 e;simp only[f1,f2];exact h
   |ro l=>exact h
   |gone=>exact h
 | vw r j ver lo m=>
   refine dm ?_ h;intro hv ls h
   revert h
   generalize hv.c=c;intro h;cases c with
   |own l=>cases l<;>exact h
   |ro l=>exact h
   |gone=>exact h
 |_=>exact h
theorem rz {α:Type}{ti:TI}{a:A}{k' k:af->List (Nat×Nat)->Rd α}{ls:List Loc}{x:α}(hk:∀ es src ls,(k' es src).Runs g ls x->(k es src).Runs g ls x)(h:(sP aj ti a k').Runs g ls x):(oW ti a k).Runs g ls x:=by
 cases a with
 |nl=>exact hk _ _ _ h
 |ro sz es=>exact cO (fun ls h=>kS id (fun ls h=>hk _ _ _ h) h) h
 | vw r j ver lo m=>
   refine dm ?_ h;intro hv ls h
   revert h
   generalize hv.c=c;intro h;cases c with
   | own l=>cases l with
     | s sz es=>
       refine cO (fun ls h=>?_) h;by_cases hs:lz ti.slots=true
       ·rw[VT hs]at h ⊢;exact kS id (fun ls h=>hk _ _ _ h) h
       ·rw[VU hs]at h ⊢;exact kS id (fun ls h=>hk _ _ _ h) h
     |v x=>exact h
     |g=>exact h
     |m _ _=>exact h
   |ro l=>exact h
   |gone=>exact h
 | vn r j ver iv p lo m=>
   refine dm ?_ h;intro hv ls h
   revert h
   generalize hv.c=c;intro h;cases c with
   | own l=>
     refine cO (fun ls h=>?_) h;obtain⟨⟨h1,h2⟩,h⟩:=h;obtain⟨rec,o,f1,f2⟩:=o8 h1;simp only[f1,f2,beq_self_eq_true,if_true];exact⟨h2,hk _ _ _ h⟩
   |ro l=>exact h
   |gone=>exact h
 |_=>exact h
theorem B5 (hT:bJ P T){d:Option Tmp}{t t':TypeId}{s x:Operand}{ls:List Loc}{out:Out}(h:(wZ T aj n d t t' s x).Runs g ls out):(lL P n d t t' s x).Runs g ls out:=by
 revert h
 unfold wZ lL;rcases hT.el t with e|⟨q,e,e2⟩
 ·simp only[e];exact fun h=>h.elim
 simp only[e,e2];intro h
 ·
   obtain⟨e,ti,b⟩:=q;refine cO (fun ls h=>?_) h;refine dH ?_ h;intro a ls h;refine dH ?_ h;intro b ls h;rw[yF]at h;refine wT ?_ h;intro l og src ls h;cases l with
   | s sz es=>
     refine cO (fun ls h=>?_) h;refine rz ?_ h;intro es2 src2 ls h;exact h
   |v y=>exact h
   |g=>exact h
   |m _ _=>exact h
def AM (g:Gm){α τ:Type}(m:∀ {β:Type},(τ->Rd β)->Rd β)(k':τ->Rd α)(ls:List Loc)(x:α):Prop:=
 ∃ t ls',(k' t).Runs g ls' x/\∀ {β:Type} (k:τ->Rd β) (y:β),(k t).Runs g ls' y->(m k).Runs g ls y
theorem Jg {α:Type}{l:Loc}{k':Val->Rd α}{ls:List Loc}{x:α}(h:(rd l k').Runs g ls x):AM g (fun k=>rd l k) k' ls x:=by
 unfold rd at h;obtain⟨ls',e,h⟩:=h;cases hg:g l with
 |none=>simp[hg,Rd.Runs]at h
 | some v=>
   simp only[hg]at h;refine⟨v,ls',h,?_⟩;intro β k y hy;refine⟨ls',e,?_⟩;simp only[hg];exact hy
theorem L3 {α:Type}{d:Nat}{k':R->Rd α}{ls:List Loc}{x:α}(h:(AG d k').Runs g ls x):AM g (fun k=>AG d k) k' ls x:=by
 obtain⟨v,ls',h1,h2⟩:=Jg h;cases v with
 |r y=>exact⟨y,ls',h1,fun k z hz=>h2 _ z hz⟩
 |_=>exact h1.elim
theorem uO {α:Type}{r j:Nat}{k':Hv->Rd α}{ls:List Loc}{x:α}(h:(gp r j k').Runs g ls x):AM g (fun k=>gp r j k) k' ls x:=by
 obtain⟨v,ls',h1,h2⟩:=Jg h;cases v with
 |h y=>exact⟨y,ls',h1,fun k z hz=>h2 _ z hz⟩
 |_=>exact h1.elim
theorem C0 {α:Type}{o:Operand}{k':R->Rd α}{ls:List Loc}{x:α}(h:(ev o k').Runs g ls x):AM g (fun k=>ev o k) k' ls x:=by
 cases o with
 |tmp t=>exact L3 h
 |const c=>exact⟨_,ls,h,fun k y hy=>hy⟩
 |_=>exact h.elim
theorem Hc {α:Type}{slot:Option Nat}{a:A}{k':L->Rd α}{ls:List Loc}{x:α}(h:(Ez aj slot a k').Runs g ls x):AM g (fun k=>CM slot a k) k' ls x:=by
 cases slot with
 | none=>
   cases a with
   | v y=>
     simp only[Ez]at h;split at h
     ·rename_i hs;exact⟨_,ls,h,fun k z hz=>by simp only[CM,hs,if_true];exact hz⟩
     ·exact h.elim
   |_=>exact h.elim
 | some sz=>
   cases a with
   |nl=>exact⟨_,ls,h,fun k y hy=>hy⟩
   | ro sz' es=>
     simp only[Ez]at h;split at h
     ·rename_i hs;exact⟨_,ls,h,fun k z hz=>by simp only[CM,hs,if_true];exact hz⟩
     ·exact h.elim
   | vw r j ver lo m=>
     obtain⟨hv,ls',h1,h2⟩:=uO h;cases hc:hv.c with
     | own l=>cases l with
       | s sz' es=>
         simp only[hc]at h1;split at h1
         ·rename_i hs;exact⟨_,ls',h1,fun k z hz=>h2 _ z (by simp only[hc,hs,if_true];exact hz)⟩
         ·exact h1.elim
       |v x=>simp[hc,Rd.Runs]at h1
       |g=>simp[hc,Rd.Runs]at h1
       |m _ _=>simp[hc,Rd.Runs]at h1
     |ro l=>simp[hc,Rd.Runs]at h1
     |gone=>simp[hc,Rd.Runs]at h1
   | vn r j ver iv p lo m=>
     obtain⟨hv,ls',h1,h2⟩:=uO h;cases hc:hv.c with
     | own l=>
       simp only[hc]at h1;split at h1
       ·rename_i hg;obtain⟨e1,h1⟩:=h1;obtain⟨rec,o,f1,f2⟩:=o8 e1;refine⟨_,ls',h1,fun k z hz=>h2 _ z ?_⟩;simp only[hc,hg,if_true,f1,f2,beq_self_eq_true];exact hz
       ·exact h1.elim
     |ro l=>simp[hc,Rd.Runs]at h1
     |gone=>simp[hc,Rd.Runs]at h1
   |_=>exact h.elim
theorem mi {α:Type}:∀ {sl:List (Option Nat)} {as:List A} {k':aT->Rd α} {ls:List Loc} {x:α},(kn aj sl as k').Runs g ls x->AM g (fun k=>fa sl as k) k' ls x
 |[],[],_,ls,_,h=>⟨_,ls,h,fun _ _ hy=>hy⟩
 |[],_::_,_,_,_,h=>h.elim
 |_::_,[],_,_,_,h=>h.elim
 | _::_,_::_,_,_,_,h=>by
   obtain⟨l,ls1,h1,h2⟩:=Hc h;obtain⟨l2,ls2,h3,h4⟩:=mi h1;exact⟨l::l2,ls2,h3,fun k y hy=>h2 _ y (h4 _ y hy)⟩
theorem ka {α:Type}{r:Nat}:∀ {m j:Nat} {k':aT->Rd α} {ls:List Loc} {x:α},(fE r j m k').Runs g ls x->AM g (fun k=>fE r j m k) k' ls x
 |0,_,_,ls,_,h=>⟨_,ls,h,fun _ _ hy=>hy⟩
 | m+1,j,_,_,_,h=>by
   obtain⟨hv,ls1,h1,h2⟩:=uO h;cases hc:hv.c with
   | own l=>
     simp only[hc]at h1;obtain⟨rec,ls2,h3,h4⟩:=ka h1;exact⟨l::rec,ls2,h3,fun k y hy=>h2 _ y (by simp only[hc];exact h4 _ y hy)⟩
   | ro l=>
     simp only[hc]at h1;obtain⟨rec,ls2,h3,h4⟩:=ka h1;exact⟨l::rec,ls2,h3,fun k y hy=>h2 _ y (by simp only[hc];exact h4 _ y hy)⟩
   |gone=>simp[hc,Rd.Runs]at h1
theorem K5 {α:Type}{l:Loc}{k':Option Val->Rd α}{ls:List Loc}{x:α}(h:(Rd.get l k').Runs g ls x):AM g (fun k=>Rd.get l k) k' ls x:=by
 obtain⟨ls',e,h⟩:=h;exact⟨g l,ls',h,fun k y hy=>⟨ls',e,hy⟩⟩
theorem lE {α:Type}:∀ {cs:List Cu} {k':af->Rd α} {ls:List Loc} {x:α},(fO cs k').Runs g ls x->AM g (fun k=>fO cs k) k' ls x
 |[],_,ls,_,h=>⟨_,ls,h,fun _ _ hy=>hy⟩
 | .pt r j::cs,_,_,_,h=>by
   obtain⟨v,ls1,h1,h2⟩:=K5 h;dsimp only at h1;split at h1
   ·rename_i n;split at h1
    ·rename_i hj;obtain⟨rec,ls2,h3,h4⟩:=ka h1;obtain⟨recs,ls3,h5,h6⟩:=lE h3;exact⟨rec::recs,ls3,h5,fun k y hy=>h2 _ y (by simp only[hj,if_true];exact h4 _ y (h6 _ y hy))⟩
    ·exact h1.elim
   ·exact h1.elim
 | .rp rec j::cs,_,_,_,h=>by
   simp only[fO]at h;split at h
   ·rename_i hj;obtain⟨recs,ls3,h5,h6⟩:=lE h;exact⟨_,ls3,h5,fun k y hy=>by simp only[fO,hj,if_true];exact h6 _ y hy⟩
   ·exact h.elim
theorem zg {α:Type}{o:Operand}{k':A->Rd α}{ls:List Loc}{x:α}(h:(fk o k').Runs g ls x):AM g (fun k=>fk o k) k' ls x:=by
 obtain⟨v,ls1,h1,h2⟩:=C0 h;cases v with
 |one a=>exact⟨a,ls1,h1,fun k y hy=>h2 _ y hy⟩
 |agg as=>exact h1.elim
 |tup rs=>exact h1.elim
theorem He (hT:bJ P T){α:Type}{t:TypeId}{o:Operand}{k':DV->Rd α}{ls:List Loc}{x:α}(h:(Hd (lk T.ptL t) o k').Runs g ls x):AM g (fun k=>Hd (Fy P t) o k) k' ls x:=by
 obtain⟨v,ls1,h1,h2⟩:=zg h;cases v with
 | pt r j=>
   rcases hT.pt t with e|⟨ti,e,e2⟩
   ·simp[e,Rd.Runs]at h1
   ·simp only[e]at h1;split at h1
    ·rename_i hp;obtain⟨rec,ls2,h3,h4⟩:=ka h1;exact⟨_,ls2,h3,fun k y hy=>h2 _ y (by simp only[e2,hp,if_true];exact h4 _ y hy)⟩
    ·exact h1.elim
 | rp rec j=>
   rcases hT.pt t with e|⟨ti,e,e2⟩
   ·simp[e,Rd.Runs]at h1
   ·simp only[e]at h1;split at h1
    ·rename_i hp;exact⟨_,ls1,h1,fun k y hy=>h2 _ y (by simp only[e2];rw[VT hp];exact hy)⟩
    ·exact h1.elim
 | fn f caps=>
   obtain⟨recs,ls2,h3,h4⟩:=lE h1;exact⟨_,ls2,h3,fun k y hy=>h2 _ y (h4 _ y hy)⟩
 |_=>exact h1.elim
theorem Hb (hT:bJ P T){α:Type}{t:TypeId}{o:Operand}{k':DV->Rd α}{ls:List Loc}{x:α}(h:(Ha T aj t o k').Runs g ls x):AM g (fun k=>CK P t o k) k' ls x:=by
 unfold Ha at h;rcases hT.ty t with e|⟨ti,e,hti⟩
 ·simp only[e]at h;split at h
  ·rename_i hp;rcases hT.pn t with f|⟨_,_,f⟩
   ·simp[f]at hp
   ·obtain⟨d,ls1,h1,h2⟩:=He hT h;exact⟨d,ls1,h1,fun k y hy=>by unfold CK;simp only[f];exact h2 _ y hy⟩
  ·exact h.elim
 ·simp only[e]at h;obtain⟨v,ls1,h1,h2⟩:=C0 h;cases v with
  | one a=>
    simp only at h1;split at h1
    ·exact h1.elim
    ·rename_i hb;obtain⟨l,ls2,h3,h4⟩:=mi h1;simp only at h3;split at h3
     ·refine⟨_,ls2,h3,fun k y hy=>?_⟩;unfold CK;simp only[hti];refine h2 _ y ?_;simp only;rw[VU hb];exact h4 _ y hy
     ·exact h3.elim
  | agg as=>
    simp only at h1;split at h1
    ·rename_i hb;obtain⟨l,ls2,h3,h4⟩:=mi h1;refine⟨_,ls2,h3,fun k y hy=>?_⟩;unfold CK;simp only[hti];refine h2 _ y ?_;simp only;rw[VT hb];exact h4 _ y hy
    ·exact h1.elim
  |tup rs=>exact h1.elim
theorem rP (hT:bJ P T){α:Type}:∀ {ts:List TypeId} {xs:List Operand} {k':List DV->Rd α} {ls:List Loc} {x:α},(yR T aj ts xs k').Runs g ls x->AM g (fun k=>qn P ts xs k) k' ls x
 |[],[],_,ls,_,h=>⟨_,ls,h,fun _ _ hy=>hy⟩
 |[],_::_,_,_,_,h=>h.elim
 |_::_,[],_,_,_,h=>h.elim
 | _::_,_::_,_,_,_,h=>by
   obtain⟨l,ls1,h1,h2⟩:=Hb hT h;obtain⟨l2,ls2,h3,h4⟩:=rP hT h1;exact⟨l::l2,ls2,h3,fun k y hy=>h2 _ y (h4 _ y hy)⟩
theorem Gb {α:Type}{d:Option Tmp}{k':Nat->Rd α}{ls:List Loc}{x:α}(h:(fresh n d k').Runs g ls x):AM g (fun k=>fresh n d k) k' ls x:=by
 cases d with
 |none=>exact h.elim
 | some d=>
   simp only[fresh]at h;split at h
   ·rename_i hlt;obtain⟨ls',e,h⟩:=h;cases hg:g (.meta_ d)with
    | none=>
      simp only[hg]at h;refine⟨d,ls',h,fun k y hy=>?_⟩;simp only[fresh,hlt,if_true,Rd.Runs];exact⟨ls',e,by simp only[hg];exact hy⟩
    |some v=>simp[hg,Rd.Runs]at h
   ·exact h.elim
def yL (P:Program)(ct:CT):Prop:=∀ f ds pre res,ct f ds=some (pre,res)->pre ()->GM P f ds res
def Cy (P:Program)(mt:MT):Prop:=∀ f mk,mt f=some mk->∀ ds pre outs res,mk ds=some (pre,outs,res)->pre ()->FY P f ds outs res
def CH (P:Program)(pt:FuncId->Option PK):Prop:=∀ f mk,pt f=some mk->∀ ds pre outs res,mk ds=some (pre,outs,res)->pre ()->xy P f ds outs res
def Cz (P:Program)(nt:FuncId->Option NK):Prop:=∀ f mk,nt f=some mk->∀ ds pre hs,mk ds=some (pre,hs)->pre ()->FZ P f ds hs
def CE (P:Program)(ot:FuncId->Option OJ):Prop:=∀ f mk,ot f=some mk->∀ ds pre res,mk ds=some (pre,res)->pre ()->CC P f ds res
def uV (P:Program)(ct:Ev):Prop:=yL P ct.rd/\Cy P ct.mu/\CH P ct.pt/\Cz P ct.nw/\CE P ct.tk
def OP (P:Program)(n:Nat)(o:Oper)(rd:Rd Out):Prop:=
 ∀ (cx:Cx) (G:Gh) (g:Gm) (a:Act) (w:World) (ls:List Loc) (ws:List W),cx.n=n->aP cx G g a w->rd.Runs g ls (.ws ws)->
  ∀ (K:Act->World->Prop) (Q:Exit->Act->World->Prop),(∀ a' w',d6 cx (aU g ws) a' w'->K a' w')->o.wp P a w K Q
def eg (P:Program)(n:Nat)(o:Oper)(g:Gm)(ls:List Loc)(ws:List W):Prop:=
 (jI o=none/\(SO P n o).Runs g ls (.ws ws))\/
 (∃ f ts args ds mk res,jI o=some (f,ts,args)/\(yI P n o.dst f ts args).Runs g ls (.call f ds mk)/\GM P f ds res/\ws=mk res)\/
 (∃ f ts args mk,jI o=some (f,ts,args)/\(∀ ds pre outs res,mk ds=some (pre,outs,res)->pre ()->FY P f ds outs res)/\(sS mf kh jq (lp P) n o.dst (dd P f) ts args mk dC).Runs g ls (.ws ws))\/
 ∃ rd,OP P n o rd/\rd.Runs g ls (.ws ws)
theorem Gu {α:Type}{slot:Option Nat}{a:A}{k' k:L->List Pl->Rd α}{x:α}{ls:List Loc}(hk:∀ l p ls,(k' l p).Runs g ls x->(k l p).Runs g ls x)(h:(I3 mf kh slot a k').Runs g ls x):(I3 mf kh slot a k).Runs g ls x:=by
 cases slot with
 | none=>
   cases a with
   |v y=>exact cO (fun ls h=>hk _ _ _ h) h
   |_=>exact h
 | some sz=>
   cases a with
   | vw r j ver lo m=>
     refine dm ?_ h;intro hv ls h
     revert h
     generalize hv.c=c;intro h;cases c with
     | own l=>cases l with
       |s sz' es=>exact cO (fun ls h=>kS id (fun ls h=>hk _ _ _ h) h) h
       |v x=>exact h
       |g=>exact h
       |m _ _=>exact h
     |ro l=>exact h
     |gone=>exact h
   | vn r j ver iv p lo m=>
     refine dm ?_ h;intro hv ls h
     revert h
     generalize hv.c=c;intro h;cases c with
     | own l=>cases l with
       |s sz' es=>exact cO (fun ls h=>kS id (fun ls h=>hk _ _ _ h) h) h
       |v x=>exact h
       |g=>exact h
       |m _ _=>exact h
     |ro l=>exact h
     |gone=>exact h
   |_=>exact h
theorem oN {α:Type}:∀ {sl:List (Option Nat)} {as:List A} {k' k:aT->List Pl->Rd α} {x:α} {ls:List Loc},(∀ l p ls,(k' l p).Runs g ls x->(k l p).Runs g ls x)->(sF mf kh sl as k').Runs g ls x->(sF mf kh sl as k).Runs g ls x
 |[],[],k',k,x,ls,hk,h=>hk _ _ _ h
 |[],_::_,k',k,x,ls,hk,h=>h
 |_::_,[],k',k,x,ls,hk,h=>h
 |s::sl,a::as,k',k,x,ls,hk,h=>Gu (fun l p ls h=>oN (fun _ _ ls h=>hk _ _ ls h) h) h
theorem Gw {ty ty':TypeId->Option TI}(ht:∀ t x,ty t=some x->ty' t=some x){α:Type}{t:TypeId}{o:Operand}{k' k:DV->List Pl->Rd α}{x:α}{ls:List Loc}(hk:∀ d p ls,(k' d p).Runs g ls x->(k d p).Runs g ls x) 
 (h:(Gv mf kh ty t o k').Runs g ls x):(Gv mf kh ty' t o k).Runs g ls x:=by
 unfold Gv at h ⊢;cases hti:ty t with
 |none=>simp[hti,Rd.Runs]at h
 | some ti=>
   simp only[hti]at h;simp only[ht t ti hti];refine qO ?_ h;intro v ls h;cases v with
   | one a=>
     simp only at h ⊢;split at h
     ·exact h.elim
     ·rename_i hb;rw[VU hb];refine oN ?_ h;intro l p ls h;split at h
      ·exact hk _ _ _ h
      ·exact h.elim
   | agg as=>
     simp only at h ⊢;split at h
     ·rename_i hb;rw[VT hb];exact oN (fun l p ls h=>hk _ _ _ h) h
     ·exact h.elim
   |tup rs=>exact h
theorem wq {ty ty':TypeId->Option TI}(ht:∀ t x,ty t=some x->ty' t=some x){α:Type}:∀ {ts:List TypeId} {xs:List Operand} {k' k:List DV->List Pl->Rd α} {x:α} {ls:List Loc},(∀ d p ls,(k' d p).Runs g ls x->(k d p).Runs g ls x)->
 (yz mf kh ty ts xs k').Runs g ls x->(yz mf kh ty' ts xs k).Runs g ls x
 |[],[],k',k,x,ls,hk,h=>hk _ _ _ h
 |[],_::_,k',k,x,ls,hk,h=>h
 |_::_,[],k',k,x,ls,hk,h=>h
 |t::ts,o::xs,k',k,x,ls,hk,h=>Gw ht (fun d p ls h=>wq ht (fun _ _ ls h=>hk _ _ ls h) h) h
theorem B7 (hT:bJ P T){o:Oper}{f:FuncId}{ts:Array TypeId}{args:Array Operand}{mk:MK}{ls:List Loc}{ws:List W}(hc:jI o=some (f,ts,args))(hmk:∀ ds pre outs res,mk ds=some (pre,outs,res)->pre ()->FY P f ds outs res) 
 (h:(sS aj.pr aj.ps aj.up (lk T.tyL) n o.dst (lk T.fnL f).isSome ts args mk (fJ aj)).Runs g ls (.ws ws)):eg P n o g ls ws:=by
 refine .inr (.inr (.inl ⟨f,ts,args,mk,hc,hmk,?_⟩));rw[show aj.pr=mf from rfl,show aj.ps=kh from rfl,show aj.up=jq from rfl,show fJ aj=dC from by funext d res;exact ki d res]at h;unfold sS at h ⊢;split at h
 ·rename_i hb';have hb:dd P f=true:=by
   rcases hT.fn f with e|⟨_,_,e⟩
   ·rw[e]at hb';cases hb'
   ·exact e
  rw[VT hb];refine wq ?_ (fun _ _ _ h=>h) h;intro t x e;rcases hT.ty t with q|⟨y,q1,q2⟩
  ·rw[q]at e;cases e
  ·rw[q1]at e;cases e;exact q2
 ·exact h.elim
theorem Eo (hT:bJ P T){ct:Ev}(hct:uV P ct){o:Oper}{f:FuncId}{ts:Array TypeId}{args:Array Operand}{ls:List Loc}{ws:List W}(hc:jI o=some (f,ts,args)) 
 (h:(Em T aj ct n o.dst f ts args).Runs g ls (.ws ws)):eg P n o g ls ws:=by
 unfold Em at h;split at h
 ·rename_i hb';have hb:dd P f=true:=by
   rcases hT.fn f with e|⟨_,_,e⟩
   ·rw[e]at hb';cases hb'
   ·exact e
  obtain⟨ds,ls1,h1,h2⟩:=rP hT h;simp only at h1;split at h1
  ·rename_i pre res he;obtain⟨hp,h1⟩:=h1;obtain⟨d,ls2,h3,h4⟩:=Gb h1;simp only[Rd.Runs,Out.ws.injEq]at h3;obtain⟨rfl,rfl⟩:=h3;refine .inr (.inl ⟨f,ts,args,ds,dC d,res,hc,?_,hct.1 _ _ _ _ he hp,by rw[ki]⟩);unfold yI;rw[VT hb];refine h2 _ _ (h4 _ _ ?_);simp[Rd.Runs]
  ·exact h1.elim
 ·exact h.elim
theorem pZ {α:Type}{r:Nat}:∀ {m j:Nat} {k':List H->Rd α} {ls:List Loc} {x:α},(lZ r j m k').Runs g ls x->AM g (fun k=>lZ r j m k) k' ls x
 |0,_,_,ls,_,h=>⟨_,ls,h,fun _ _ hy=>hy⟩
 | m+1,j,_,_,_,h=>by
   obtain⟨hv,ls1,h1,h2⟩:=uO h;cases hc:hv.c with
   | own l=>
     simp only[hc]at h1;obtain⟨rec,ls2,h3,h4⟩:=pZ h1;exact⟨.own l::rec,ls2,h3,fun k y hy=>h2 _ y (by simp only[hc];exact h4 _ y hy)⟩
   | ro l=>
     simp only[hc]at h1;obtain⟨rec,ls2,h3,h4⟩:=pZ h1;exact⟨.ro l::rec,ls2,h3,fun k y hy=>h2 _ y (by simp only[hc];exact h4 _ y hy)⟩
   |gone=>simp[hc,Rd.Runs]at h1
theorem I5 (hT:bJ P T){α:Type}{t:TypeId}{o:Operand}{k':DV×List (Nat×Nat)×List k7->Rd α}{ls:List Loc}{x:α} 
 (h:(zF (fun {β}=>kn aj (α:=β)) (lk T.tyL) (lk T.ptL) (fun t=>(lk T.pnL t).isSome) t o fun d s p=>k' (d,s,p)).Runs g ls x):AM g (fun k=>zF fa (lp P) (Fy P) (fun _=>true) t o fun d s p=>k (d,s,p)) k' ls x:=by
 unfold zF at h;rcases hT.ty t with e|⟨ti,e,hti⟩
 ·simp only[e]at h;split at h
  case isFalse=>exact h.elim
  rename_i hp;rcases hT.pn t with f|⟨_,_,f⟩
  ·simp[f]at hp
  obtain⟨v,ls1,h1,h2⟩:=zg h;cases v with
  | pt r j=>
    rcases hT.pt t with e3|⟨ti,e3,e4⟩
    ·simp[e3,Rd.Runs]at h1
    ·simp only[e3]at h1;split at h1
     ·rename_i hpos;obtain⟨hs,ls2,h3,h4⟩:=pZ h1;exact⟨(_,_,_),ls2,h3,fun k y hy=>by unfold zF;simp only[f,if_true];exact h2 _ y (by simp only[e4,hpos,if_true];exact h4 _ y hy)⟩
     ·exact h1.elim
  |_=>exact h1.elim
 ·simp only[e]at h;obtain⟨v,ls1,h1,h2⟩:=C0 h;cases v with
  | one a=>
    simp only at h1;split at h1
    ·exact h1.elim
    ·rename_i hb;obtain⟨l,ls2,h3,h4⟩:=mi h1;simp only at h3;split at h3
     ·refine⟨(_,_,_),ls2,h3,fun k y hy=>?_⟩;unfold zF;simp only[hti];refine h2 _ y ?_;simp only;rw[VU hb];exact h4 _ y hy
     ·exact h3.elim
  | agg as=>
    simp only at h1;split at h1
    ·rename_i hb;obtain⟨l,ls2,h3,h4⟩:=mi h1;refine⟨(_,_,_),ls2,h3,fun k y hy=>?_⟩;unfold zF;simp only[hti];refine h2 _ y ?_;simp only;rw[VT hb];exact h4 _ y hy
    ·exact h1.elim
  |tup rs=>exact h1.elim
theorem sG (hT:bJ P T){α:Type}:∀ {ts:List TypeId} {xs:List Operand} {k':List DV×List (Nat×Nat)×List k7->Rd α} {ls:List Loc} {x:α},
 (ra (fun {β}=>kn aj (α:=β)) (lk T.tyL) (lk T.ptL) (fun t=>(lk T.pnL t).isSome) ts xs fun d s p=>k' (d,s,p)).Runs g ls x->AM g (fun k=>ra fa (lp P) (Fy P) (fun _=>true) ts xs fun d s p=>k (d,s,p)) k' ls x
 |[],[],_,ls,_,h=>⟨(_,_,_),ls,h,fun _ _ hy=>hy⟩
 |[],_::_,_,_,_,h=>h.elim
 |_::_,[],_,_,_,h=>h.elim
 | t::ts,o::xs,k',_,_,h=>by
   obtain⟨⟨d,s,p⟩,ls1,h1,h2⟩:=I5 hT (k':=fun q=>ra (fun {β}=>kn aj (α:=β)) (lk T.tyL) (lk T.ptL) (fun t=>(lk T.pnL t).isSome) ts xs fun ds srcs pts=>k' (q.1::ds,q.2.1++srcs,q.2.2++pts)) h;obtain⟨⟨ds,ss,ps⟩,ls2,h3,h4⟩:=sG hT (k':=fun q=>k' (d::q.1,s++q.2.1,p++q.2.2)) h1;exact⟨(_,_,_),ls2,h3,fun k y hy=>h2 (fun q=>ra fa (lp P) (Fy P) (fun _=>true) ts xs fun ds srcs pts=>k (q.1::ds,q.2.1++srcs,q.2.2++pts)) y (h4 (fun q=>k (d::q.1,s++q.2.1,p++q.2.2)) y hy)⟩
theorem B9 (hT:bJ P T){o:Oper}{f:FuncId}{ts:Array TypeId}{args:Array Operand}{mk:PK}{ls:List Loc}{ws:List W}(hc:jI o=some (f,ts,args))(hmk:∀ ds pre outs res,mk ds=some (pre,outs,res)->pre ()->xy P f ds outs res) 
 (h:(sU aj.pr (fun {β}=>kn aj (α:=β)) (lk T.tyL) (lk T.ptL) (fun t=>(lk T.pnL t).isSome) n o.dst (lk T.fnL f).isSome ts args mk (fJ aj)).Runs g ls (.ws ws)):eg P n o g ls ws:=by
 refine .inr (.inr (.inr ⟨sU mf fa (lp P) (Fy P) (fun _=>true) n o.dst (dd P f) ts args mk dC,?_,?_⟩))
 ·intro cx G g a w ls ws hn hS h K Q hk;subst hn;exact Al (oq hc) hS hmk h hk
 ·rw[show aj.pr=mf from rfl,show fJ aj=dC from by funext d res;exact ki d res]at h;unfold sU at h ⊢;split at h
  ·rename_i hb';have hb:dd P f=true:=by
    rcases hT.fn f with e|⟨_,_,e⟩
    ·rw[e]at hb';cases hb'
    ·exact e
   rw[VT hb];obtain⟨⟨ds,ss,ps⟩,ls1,h1,h2⟩:=sG hT (k':=fun q=>match mk q.1 with
    | some (pre,outs,res)=>if nO q.2.2&&q.2.1.all (fun s=>q.2.2.all fun p=> !Bl s p)then .req (mf pre) (GG q.2.2 outs fun ws=>match o.dst with
       |some _=>fresh n o.dst fun d=>.ret (Out.ws (ws++dC d res))
       |none=>.ret (Out.ws ws))else .fail
    |none=>.fail) h
   exact h2 (fun q=>match mk q.1 with
    | some (pre,outs,res)=>if nO q.2.2&&q.2.1.all (fun s=>q.2.2.all fun p=> !Bl s p)then .req (mf pre) (GG q.2.2 outs fun ws=>match o.dst with
       |some _=>fresh n o.dst fun d=>.ret (Out.ws (ws++dC d res))
       |none=>.ret (Out.ws ws))else .fail
    |none=>.fail) _ h1
  ·exact h.elim
theorem El (hT:bJ P T){ct:Ev}{d:Option Tmp}{t:Tmp}{ts:Array TypeId}{args:Array Operand}{ls:List Loc}{out:Out} 
 (h:(Ah T aj ct n d t ts args).Runs g ls out):(Ag P ct.rd n d t ts args).Runs g ls out:=by
 unfold Ah at h;obtain⟨v,ls1,h1,h2⟩:=zg h;cases v with
 | fn f caps=>
   obtain⟨ds,ls2,h3,h4⟩:=rP hT h1;obtain⟨recs,ls3,h5,h6⟩:=lE h3;unfold Ag;refine h2 _ _ (h4 _ _ (h6 _ _ ?_));cases hm:ct.rd f (ds++recs.map .ptr)with
   |none=>simp[hm,Rd.Runs]at h5
   | some pr=>
     obtain⟨pre,res⟩:=pr;simp only[hm]at h5 ⊢;obtain⟨hp,hb,h5⟩:=h5;refine⟨⟨hp,?_⟩,?_⟩
     ·rcases hT.fn f with e|⟨_,_,e⟩
      ·have hb:(lk T.fnL f).isSome=true:=hb;rw[e]at hb;cases hb
      ·exact e
     ·rw[show fJ aj=dC from by funext d res;exact ki d res]at h5;exact h5
 |_=>exact h1.elim
theorem B6 (hT:bJ P T){d:Option Tmp}{t:Tmp}{ts:Array TypeId}{args:Array Operand}{pt:FuncId->Option PK}{ls:List Loc}{out:Out} 
 (h:(pk mf (fun {β}=>kn aj (α:=β)) (lk T.tyL) (lk T.ptL) (fun t=>(lk T.pnL t).isSome) n d (fun f=>(lk T.fnL f).isSome) t ts args pt (fJ aj)).Runs g ls out):
 (pk mf fa (lp P) (Fy P) (fun _=>true) n d (dd P) t ts args pt dC).Runs g ls out:=by
 unfold pk at h ⊢;refine dH ?_ h;intro v ls h;cases v with
 | fn f caps=>
   simp only at h ⊢;cases hm:pt f with
   |none=>simp[hm,Rd.Runs]at h
   | some mk=>
     simp only[hm]at h ⊢;rcases hT.fn f with e|⟨_,e1,e2⟩
     ·simp[e,Rd.Runs]at h
     rw[VT e2];rw[VT (by rw[e1];rfl)]at h;rw[show fJ aj=dC from by funext d res;exact ki d res]at h;obtain⟨⟨ds,ss,ps⟩,ls1,h1,h2⟩:=sG hT (k':=fun q=>vF caps fun ds2 pts2=>BW mf n d (q.1++ds2) q.2.1 (q.2.2++pts2) mk dC) h;exact h2 (fun q=>vF caps fun ds2 pts2=>BW mf n d (q.1++ds2) q.2.1 (q.2.2++pts2) mk dC) _ h1
 |_=>exact h.elim
def En (P:Program)(ct:Ev)(n:Nat)(d:Option Tmp)(t:Tmp)(ts:Array TypeId)(args:Array Operand):Rd Out:=
 fk (.tmp t) fun
  | .fn f _=>match ct.pt f with
    |some _=>pk mf fa (lp P) (Fy P) (fun _=>true) n d (dd P) t ts args ct.pt dC
    |none=>Ag P ct.rd n d t ts args
  |_=>.fail
theorem Cb (hT:bJ P T){ct:Ev}(hct:uV P ct){o:Oper}{t:Tmp}{ts:Array TypeId}{args:Array Operand}{ls:List Loc}{ws:List W}(ho:o.op=.call {callee:=.value (.tmp t),args:=args,argTypes:=ts}) 
 (h:(An T aj ct n o.dst t ts args).Runs g ls (.ws ws)):eg P n o g ls ws:=by
 refine .inr (.inr (.inr ⟨En P ct n o.dst t ts args,?_,?_⟩))
 ·intro cx G g a w ls ws hn hS h K Q hk;subst hn;unfold En at h;obtain⟨x0,ls1,hx,h⟩:=bz hS h;cases x0 with
  | fn f caps=>
    simp only at h;split at h
    ·exact xM ho hS (fun f mk e=>hct.2.2.1 f mk e) h hk
    ·exact Ai (fun f ds pre res e hp=>hct.1 f ds pre res e hp) ho hS h hk
  |_=>exact h.elim
 ·unfold An at h;unfold En;refine dH ?_ h;intro v ls h;cases v with
  | fn f caps=>
    simp only at h ⊢;cases hm:ct.pt f with
    |some mk=>simp only[hm]at h ⊢;exact B6 hT h
    |none=>simp only[hm]at h ⊢;exact El hT h
  |_=>exact h.elim
theorem B8 (hT:bJ P T){o:Oper}{c:Call}{f:FuncId}{mk:NK}{ls:List Loc}{ws:List W}(e1:o.op=.call c)(e2:c.callee=.value (.func f))(hmk:∀ ds pre hs,mk ds=some (pre,hs)->pre ()->FZ P f ds hs) 
 (h:(sT mf n o.dst (lk T.fnL f).isSome c.args mk).Runs g ls (.ws ws)):eg P n o g ls ws:=by
 refine .inr (.inr (.inr ⟨sT mf n o.dst (dd P f) c.args mk,?_,?_⟩))
 ·intro cx G g a w ls ws hn hS h K Q hk;subst hn;obtain⟨cal,as,ats⟩:=c;simp only at e2;subst e2;exact Ak e1 hS hmk h hk
 ·unfold sT at h ⊢;split at h
  ·rename_i hb';have hb:dd P f=true:=by
    rcases hT.fn f with e|⟨_,_,e⟩
    ·rw[e]at hb';cases hb'
    ·exact e
   rw[VT hb];exact h
  ·exact h.elim
theorem EU {α:Type}{x:Operand}{k':A->Rd α}{ls:List Loc}{o:α}(h:(fk x k').Runs g ls o):
 ∃ a ls1 ls',(k' a).Runs g ls' o/\∀ {β:Type} (k:A->Rd β) (ls'':List Loc) (o':β),(k a).Runs g ls'' o'->(fk x k).Runs g (ls1++ls'') o':=by
 unfold fk ev at h;cases x with
 | tmp t=>
   simp only[AG,rd,Rd.Runs]at h;obtain⟨ls',_,h⟩:=h;cases hg:g (.reg t)with
   |none=>simp only[hg]at h;exact h.elim
   | some v=>
     cases v with
     | r y=>
       cases y with
       | one a=>
         simp only[hg]at h;refine⟨a,[.reg t],ls',h,fun k ls'' o' hk=>?_⟩;simp only[fk,ev,AG,rd,Rd.Runs];refine⟨ls'',rfl,?_⟩;rw[hg];exact hk
       |agg _=>simp only[hg]at h;exact h.elim
       |tup _=>simp only[hg]at h;exact h.elim
     |h _=>simp only[hg]at h;exact h.elim
     |m _ _=>simp only[hg]at h;exact h.elim
 | const c=>
   simp only at h;cases hc:yZ c with
   | one a=>
     rw[hc]at h;refine⟨a,[],ls,h,fun k ls'' o' hk=>?_⟩;unfold fk ev;simp only[hc];exact hk
   |agg _=>rw[hc]at h;exact h.elim
   |tup _=>rw[hc]at h;exact h.elim
 |_=>exact h.elim
theorem sy {ln:Ln}{v:Option Val}{a b c:Nat}(h:dy ln v=some (a,b,c)):∃ hv es,v=some (.h hv)/\hv.c=.own (.s b es)/\a=hv.ver/\c=ln.f es:=by
 unfold dy at h
 repeat' split at h
 all_goals first|(cases h;done)|(rename_i hv _ sz es e;simp only[Ya,XV]at h;obtain⟨rfl,rfl,rfl⟩:=h;exact⟨_,es,rfl,e,rfl,rfl⟩)
theorem Au {d:Option Tmp}{t:TypeId}{x:Operand}{lo hi mx:Option Operand}{ls:List Loc}{out:Out}(h:(xk T aj n d t x lo hi mx).Runs g ls out):∃ ls2,(rF T aj n d t x lo hi mx).Runs g ls2 out:=by
 unfold xk at h;cases he:lk T.elL t with
 |none=>simp only[he]at h;exact h.elim
 | some q=>
   obtain⟨e,ti,b⟩:=q;cases mx with
   |some _=>simp only[he]at h;exact h.elim
   | none=>
     simp only[he]at h;obtain⟨a,ls1,ls',h1,h2⟩:=EU h;cases a with
     | vw r j ver lo' m=>
       simp only at h1;obtain⟨ls3,_,h1⟩:=h1
       revert h1;generalize hh:dy _ (g (.leaf r j))=q;intro h1
       cases q with
       |none=>exact h1.elim
       | some q=>
         obtain⟨v,s,m'⟩:=q;obtain⟨hv,es,e1,e2,e3,e4⟩:=sy hh;simp only at h1;unfold rF;simp only[he];refine⟨_,h2 _ (.leaf r j::ls3) _ ?_⟩;simp only[gp,rd,Rd.Runs];refine⟨ls3,rfl,?_⟩;rw[e1];simp only[e2];subst e3;exact h1
     |_=>exact⟨_,h1⟩
theorem Cg {d:Option Tmp}{t:TypeId}{x:Operand}{ls:List Loc}{out:Out}(h:(rE T aj n d t x).Runs g ls out):∃ ls2,(qg T aj n d t x).Runs g ls2 out:=by
 unfold rE at h;cases hp:Q7 (lk T.tyL t)with
 |false=>simp only[hp]at h;exact⟨_,h⟩
 | true=>
   simp only[hp]at h;cases he:lk T.tyL t with
   |none=>rw[he]at hp;cases hp
   | some ti=>
     rw[he]at hp;simp only[Q7,Zc,Yv]at hp;have hz:=Z5 hp.2;obtain⟨a,ls1,ls',h1,h2⟩:=EU h;cases a with
     | pt r j=>
       simp only at h1;obtain⟨ls3,_,h1⟩:=h1
       revert h1;generalize hh:dy _ (g (.leaf r j))=q;intro h1
       cases q with
       |none=>exact⟨_,h1⟩
       | some q=>
         obtain⟨v,s,m'⟩:=q;obtain⟨hv,es,e1,e2,e3,e4⟩:=sy hh;simp only at h1;unfold qg;simp only[he];refine⟨_,h2 _ (.leaf r j::ls3) _ ?_⟩;simp only[hz,gQ,gp,rd,Rd.Runs];refine⟨ls3,rfl,?_⟩;rw[e1];simp only[Ds,Dr,e2,LF,hp.1];subst e3 e4;exact h1
     |_=>exact⟨_,h1⟩
theorem Av (hT:bJ P T){o:Oper}{t:TypeId}{x:Operand}{lo hi mx:Option Operand}{ls:List Loc}{ws:List W}(ho:o.op=.slice t x lo hi mx)(h:(rG T aj n o.dst t x lo hi mx).Runs g ls (.ws ws)):eg P n o g ls ws:=by
 refine .inr (.inr (.inr ⟨rG T aj n o.dst t x lo hi mx,?_,h⟩));intro cx G g a w ls ws hn hS h K Q hk;subst hn;unfold rG at h;obtain⟨x0,ls1,_,h⟩:=bz hS h;cases x0 with
 | vn r j ver iv p lo m=>
   simp only at h;refine xQ (ls:=ls1) ho hS ?_ hk;unfold uT at h ⊢;rcases hT.el t with e|⟨y,e,e2⟩
   ·rw[e]at h;exact h.elim
   ·rw[e]at h;rw[e2];exact h
 |_=>obtain⟨ls2,h2⟩:=Au h;exact rH ho hS (Es hT h2) hk
theorem Ch (hT:bJ P T){o:Oper}{t:TypeId}{x:Operand}{ls:List Loc}{ws:List W}(ho:o.op=.load t x)(h:(rE T aj n o.dst t x).Runs g ls (.ws ws)):eg P n o g ls ws:=by
 refine .inr (.inr (.inr ⟨rE T aj n o.dst t x,?_,h⟩));intro cx G g a w ls ws hn hS h K Q hk;subst hn;obtain⟨ls2,h2⟩:=Cg h;exact tV ho cx.n cx rfl G g a w _ ws hS (GI hT h2) K Q hk
theorem sZ (hT:bJ P T){o:Oper}{t:TypeId}{x i:Operand}{ls:List Loc}{ws:List W}(ho:o.op=.indexAddr t x i)(h:(kf T aj n o.dst t x i).Runs g ls (.ws ws)):eg P n o g ls ws:=by
 refine .inr (.inr (.inr ⟨kf T aj n o.dst t x i,?_,h⟩));intro cx G g a w ls ws hn hS h K Q hk;subst hn;unfold kf at h;rcases hT.el t with e|⟨q,e,e2⟩
 ·simp only[e]at h;exact h.elim
 obtain⟨e0,ti,b⟩:=q;simp only[e]at h;obtain⟨x0,ls1,hx,h⟩:=bz hS h;cases x0 with
 | vw r j ver lo m=>
   simp only at h;obtain⟨ls3,_,h⟩:=h
   revert h;generalize hh:dy _ (g (.leaf r j))=q;intro h
   cases q with
   |none=>exact h.elim
   | some q=>
     obtain⟨v,s,m'⟩:=q;obtain⟨hv,es,e1,e3,e4,e5⟩:=sy hh;simp only at h;split at h
     case isFalse=>exact h.elim
     rename_i hb;simp only[Zc,beq_iff_eq]at hb;obtain⟨hver,hsz⟩:=hb;obtain⟨kd,idx,ls4,hi,h⟩:=dR hS h;obtain⟨⟨h0,h1⟩,h⟩:=h;exact xg ho hS e2 hx hi (au.2 e1) (by rw[e3,hsz]) (by rw[<-hver,e4]) h0 h1 h hk
 |_=>exact mL ho hS (xf hT h) hk
theorem xL (hT:bJ P T){o:Oper}{t t':TypeId}{s x:Operand}{ls:List Loc}{ws:List W}(ho:o.op=.call {callee:=.builtin .append,args:= #[s,x],argTypes:= #[t,t']})(h:(pj T aj n o.dst t t' s x).Runs g ls (.ws ws)):eg P n o g ls ws:=by
 refine .inr (.inr (.inr ⟨pj T aj n o.dst t t' s x,?_,h⟩));intro cx G g a w ls ws hn hS h K Q hk;subst hn;unfold pj at h;obtain⟨x0,ls1,_,h⟩:=bz hS h;cases x0 with
 | vn r j ver iv p lo m=>
   simp only at h;refine wY (ls:=ls1) ho hS ?_ hk
   revert h
   unfold rB;rcases hT.el t with e|⟨q,e,e2⟩
   ·simp only[e];exact fun h=>h.elim
   simp only[e,e2];intro h;obtain⟨e0,ti,b⟩:=q;refine cO (fun ls h=>?_) h;refine dH ?_ h;intro a ls h;cases a with
   | vn r j ver iv p lo m=>
     refine dm ?_ h;intro hv ls h
     revert h
     generalize hv.c=c;intro h;cases c with
     | own l=>cases l with
       | s sz es=>
         refine cO (fun ls h=>?_) h;refine dH ?_ h;intro b ls h;refine rz ?_ h;intro es2 src2 ls h;exact h
       |_=>exact h
     |_=>exact h
   |_=>exact h
 |_=>exact pH ho hS (B5 hT h) hk
theorem Ax (hT:bJ P T){o:Oper}{t:TypeId}{x y:Operand}{ls:List Loc}{ws:List W}(ho:o.op=.store t x y)(hd:o.dst=none)(h:(xm T aj t x y).Runs g ls (.ws ws)):eg P n o g ls ws:=by
 refine .inr (.inr (.inr ⟨ev y fun
  | .one (.vn _ _ _ _ _ _ _)=>rI mf kh (fun es lo m=>(es.drop lo).take m) jq (lp P) t x y
  |_=>s8 P t x y,?_,?_⟩))
 ·intro cx G g a w ls ws hn hS h K Q hk;subst hn;obtain⟨x0,ls1,_,h⟩:=dk hS h;split at h
  ·exact xR ho hd hS h hk
  ·exact rJ ho hd hS h hk
 ·unfold xm at h;refine qO ?_ h;intro v ls h;split at h
  ·try simp only
   unfold rI at h ⊢;rcases hT.ty t with e|⟨z,e,e2⟩
   ·rw[e]at h;exact h.elim
   ·rw[e]at h;rw[e2];exact h
  ·rename_i hne
   first
    |exact xo hT h
    | (split
       ·exact absurd rfl (hne _ _ _ _ _ _ _)
       ·exact xo hT h)
theorem xO (hT:bJ P T){o:Oper}{t:TypeId}{r:Option Operand}{ls:List Loc}{ws:List W}(ho:o.op=.makeMap t r)(h:(mM (lk T.mpL) n o.dst t r).Runs g ls (.ws ws)):eg P n o g ls ws:=by
 refine .inr (.inr (.inr ⟨mM (zB P) n o.dst t r,?_,?_⟩))
 ·intro cx G g a w ls ws hn hS h K Q hk;subst hn;exact xh ho hS h hk
 ·unfold mM at h ⊢;rcases hT.mp t with e|⟨x,e,e2⟩
  ·cases r<;>simp[e,Rd.Runs]at h
  ·rw[e]at h;rw[e2];exact h
theorem Ck (hT:bJ P T){o:Oper}{t:TypeId}{x:Operand}{ls:List Loc}{ws:List W}(ho:o.op=.range t x)(h:(s7 (lk T.mpL) n o.dst t x).Runs g ls (.ws ws)):eg P n o g ls ws:=by
 refine .inr (.inr (.inr ⟨s7 (zB P) n o.dst t x,?_,?_⟩))
 ·intro cx G g a w ls ws hn hS h K Q hk;subst hn;exact As ho hS h hk
 ·unfold s7 at h ⊢;rcases hT.mp t with e|⟨y,e,e2⟩
  ·simp[e,Rd.Runs]at h
  ·rw[e]at h;rw[e2];exact h
theorem Cd {o:Oper}{x:Operand}{ls:List Loc}{ws:List W}(ho:o.op=.entry x)(h:(xc n o.dst x).Runs g ls (.ws ws)):eg P n o g ls ws:=by
 refine .inr (.inr (.inr ⟨xc n o.dst x,?_,h⟩));intro cx G g a w ls ws hn hS h K Q hk;subst hn;exact Ao ho hS h hk
theorem Ce (hT:bJ P T){o:Oper}{t:TypeId}{x:Operand}{f:Nat}{ls:List Loc}{ws:List W}(ho:o.op=.field t x f)(h:(sX (lk T.cmL) n o.dst t x f).Runs g ls (.ws ws)):eg P n o g ls ws:=by
 refine .inr (.inr (.inr ⟨sX (MS P) n o.dst t x f,?_,?_⟩))
 ·intro cx G g a w ls ws hn hS h K Q hk;subst hn;exact Ap ho hS h hk
 ·unfold sX at h ⊢;rcases hT.cm t with e|⟨y,e,e2⟩
  ·rw[e]at h;exact h.elim
  ·rw[e]at h;rw[e2];exact h
theorem Aq (hT:bJ P T){o:Oper}{t:TypeId}{x i:Operand}{k:Bool}{ls:List Loc}{ws:List W}(ho:o.op=.lookup t x i k)(h:(pm mgbI jc (lk T.mpL) n o.dst t x i k).Runs g ls (.ws ws)):eg P n o g ls ws:=by
 refine .inr (.inr (.inr ⟨pm mgbI jc (zB P) n o.dst t x i k,?_,?_⟩))
 ·intro cx G g a w ls ws hn hS h K Q hk;subst hn;exact xN ho hS h hk
 ·unfold pm at h ⊢;rcases hT.mp t with e|⟨y,e,e2⟩
  ·cases k<;>simp[e,Rd.Runs]at h
  ·rw[e]at h;rw[e2];exact h
theorem Ar (hT:bJ P T){o:Oper}{t:TypeId}{m k v:Operand}{ls:List Loc}{ws:List W}(ho:o.op=.mapUpdate t m k v)(hd:o.dst=none)(h:(po mO (lk T.mpL) t m k v).Runs g ls (.ws ws)):eg P n o g ls ws:=by
 refine .inr (.inr (.inr ⟨po mO (zB P) t m k v,?_,?_⟩))
 ·intro cx G g a w ls ws hn hS h K Q hk;subst hn;exact xP ho hd hS h hk
 ·unfold po at h ⊢;rcases hT.mp t with e|⟨y,e,e2⟩
  ·simp[e,Rd.Runs]at h
  ·rw[e]at h;rw[e2];exact h
theorem xi (hT:bJ P T){o:Oper}{t:TypeId}{m k:Operand}{ls:List Loc}{ws:List W}(ho:o.op=.mapEntry t m k)(h:(kj mgbI jc mO (lk T.mpL) n o.dst t m k).Runs g ls (.ws ws)):eg P n o g ls ws:=by
 refine .inr (.inr (.inr ⟨kj mgbI jc mO (zB P) n o.dst t m k,?_,?_⟩))
 ·intro cx G g a w ls ws hn hS h K Q hk;subst hn;exact uA ho hS h hk
 ·unfold kj at h ⊢;rcases hT.mp t with e|⟨y,e,e2⟩
  ·simp[e,Rd.Runs]at h
  ·rw[e]at h;rw[e2];exact h
theorem sW (hT:bJ P T){o:Oper}{t:TypeId}{m s x:Operand}{ls:List Loc}{ws:List W}(ho:o.op=.entryStore t m s x)(hd:o.dst=none)(h:(gT mO (lk T.mpL) t m s x).Runs g ls (.ws ws)):eg P n o g ls ws:=by
 refine .inr (.inr (.inr ⟨gT mO (zB P) t m s x,?_,?_⟩))
 ·intro cx G g a w ls ws hn hS h K Q hk;subst hn;exact rD ho hd hS h hk
 ·unfold gT at h ⊢;rcases hT.mp t with e|⟨y,e,e2⟩
  ·simp[e,Rd.Runs]at h
  ·rw[e]at h;rw[e2];exact h
theorem GD {tk:∀ {β:Type},List (Option Nat)->List A->(List (L×Option Nat)->List (Nat×Nat)->Rd β)->Rd β}(hT:bJ P T)(htk:∀ {β:Type}, @tk β= @cU β){α:Type}{t:TypeId}{x:Operand}{k' k:DV->List (Nat×Nat)->Rd α}{y:α}{ls:List Loc} 
 (hk:∀ d s ls,(k' d s).Runs g ls y->(k d s).Runs g ls y) (h:(GC tk (lk T.tyL) t x k').Runs g ls y):(GC cU (lp P) t x k).Runs g ls y:=by
 unfold GC at h ⊢;rcases hT.ty t with e|⟨ti,e,e2⟩
 ·rw[e]at h;exact h.elim
 ·rw[e]at h;rw[e2];refine qO ?_ h;intro v ls h;cases v with
  | one a=>
    simp only[htk]at h ⊢;split at h
    ·exact h.elim
    ·rename_i hag;rw[VU hag];refine iE ?_ h;intro lts src ls h;split at h
     ·exact hk _ _ _ h
     ·exact h.elim
  | agg as=>
    simp only[htk]at h ⊢;split at h
    ·rename_i hag;rw[VT hag];refine iE ?_ h;intro lts src ls h;exact hk _ _ _ h
    ·exact h.elim
  |tup rs=>exact h.elim
theorem wQ {tk:∀ {β:Type},List (Option Nat)->List A->(List (L×Option Nat)->List (Nat×Nat)->Rd β)->Rd β}(hT:bJ P T)(htk:∀ {β:Type}, @tk β= @cU β){α:Type}:∀ {ts:List TypeId} {xs:List Operand} {k' k:List DV->List (Nat×Nat)->Rd α} {y:α} {ls:List Loc},
 (∀ d s ls,(k' d s).Runs g ls y->(k d s).Runs g ls y)->(wP tk (lk T.tyL) ts xs k').Runs g ls y->(wP cU (lp P) ts xs k).Runs g ls y
 |[],[],k',k,y,ls,hk,h=>hk _ _ _ h
 |[],_::_,k',k,y,ls,hk,h=>h.elim
 |_::_,[],k',k,y,ls,hk,h=>h.elim
 | t::ts,x::xs,k',k,y,ls,hk,h=>by
   simp only[wP]at h ⊢;refine GD hT htk ?_ h;intro d s ls h;exact wQ hT htk (fun d s ls h=>hk _ _ _ h) h
theorem Ca (hT:bJ P T){o:Oper}{c:Call}{f:FuncId}{mk:OJ}{ls:List Loc}{ws:List W}(e1:o.op=.call c)(e2:c.callee=.value (.func f))(hmk:∀ ds pre res,mk ds=some (pre,res)->pre ()->CC P f ds res) 
 (h:(sV (fun {β}=>jv aj (α:=β)) (lk T.tyL) mf n o.dst (lk T.fnL f).isSome c.argTypes c.args mk (fJ aj)).Runs g ls (.ws ws)):eg P n o g ls ws:=by
 refine .inr (.inr (.inr ⟨sV cU (lp P) mf n o.dst (dd P f) c.argTypes c.args mk dC,?_,?_⟩))
 ·intro cx G g a w ls ws hn hS h K Q hk;subst hn;obtain⟨cal,as,ats⟩:=c;simp only at e2;subst e2;exact Am e1 hS hmk h hk
 ·unfold sV at h ⊢;rcases hT.fn f with e|⟨_,e,e3⟩
  ·rw[e]at h;exact h.elim
  ·rw[VT e3];rw[VT (by rw[e];rfl)]at h;rw[show fJ aj=dC from by funext d res;exact ki d res]at h;exact wQ hT (by intro β;funext sl as k;exact jx sl as k) (fun _ _ _ h=>h) h
theorem IK (b:Bool):mmO aj b=sD b:=by
 funext vs
 match vs with
 |[]=>rfl
 |[x]=>cases x<;>rfl
 | [x,y]=>
   cases x<;>cases y<;>first|rfl|skip
   rename_i k a k' b';simp only[mmO,sD];by_cases e:k=k'
   ·subst e;simp only[beq_self_eq_true,if_true];rfl
   ·simp[e]
 |x::y::z::vs=>cases x<;>cases y<;>rfl
theorem JY (hT:bJ P T){ct:Ev}(hct:uV P ct){o:Oper}{ls:List Loc}{ws:List W}(h:(nT T aj ct n o).Runs g ls (.ws ws)):eg P n o g ls ws:=by
 by_cases hc:∃ c f,o.op=.call c/\c.callee=.value (.func f)
 ·obtain⟨c,f,e1,e2⟩:=hc;unfold nT at h;simp only[e1,e2]at h;cases hnw:ct.nw f with
  | some mk=>
    simp only[hnw]at h;exact B8 hT e1 e2 (hct.2.2.2.1 f mk hnw) h
  |none=>
  simp only[hnw]at h;cases htk:ct.tk f with
  | some mk=>
    simp only[htk]at h;exact Ca hT e1 e2 (hct.2.2.2.2 f mk htk) h
  |none=>
  simp only[htk]at h;cases hpt:ct.pt f with
  | some mk=>
    simp only[hpt]at h;exact B9 hT (by unfold jI;simp only[e1,e2]) (hct.2.2.1 f mk hpt) h
  |none=>
  simp only[hpt]at h;cases hmu:ct.mu f with
  | none=>
    simp only[hmu]at h;exact Eo hT hct (by unfold jI;simp only[e1,e2]) h
  | some mk=>
    simp only[hmu]at h;exact B7 hT (by unfold jI;simp only[e1,e2]) (hct.2.1 f mk hmu) h
 by_cases hc2:∃ c t,o.op=.call c/\c.callee=.value (.tmp t)
 ·obtain⟨c,t,e1,e2⟩:=hc2;unfold nT at h;simp only[e1,e2]at h;exact Cb hT hct (by rw[e1];obtain⟨cal,as,ats⟩:=c;simp only at e2;rw[e2]) h
 by_cases hsl:∃ t x lo hi mx,o.op=.slice t x lo hi mx
 ·obtain⟨t,x,lo,hi,mx,e1⟩:=hsl;unfold nT at h;simp only[e1]at h;exact Av hT e1 h
 by_cases hst:∃ t x y,o.op=.store t x y
 ·obtain⟨t,x,y,e1⟩:=hst;unfold nT at h;simp only[e1]at h;split at h
  ·rename_i hd;exact Ax hT e1 hd h
  ·exact h.elim
 by_cases hix:∃ t x i,o.op=.indexAddr t x i
 ·obtain⟨t,x,i,e1⟩:=hix;unfold nT at h;simp only[e1]at h;exact sZ hT e1 h
 by_cases hap:∃ s x t t',o.op=.call {callee:=.builtin .append,args:= #[s,x],argTypes:= #[t,t']}
 ·obtain⟨s,x,t,t',e1⟩:=hap;unfold nT at h;simp only[e1]at h;exact xL hT e1 h
 by_cases hld:∃ t x,o.op=.load t x
 ·obtain⟨t,x,e1⟩:=hld;unfold nT at h;simp only[e1]at h;exact Ch hT e1 h
 by_cases hmk:∃ t r,o.op=.makeMap t r
 ·obtain⟨t,r,e1⟩:=hmk;unfold nT at h;simp only[e1]at h;exact xO hT e1 h
 by_cases hfi:∃ t x f,o.op=.field t x f
 ·obtain⟨t,x,f,e1⟩:=hfi;unfold nT at h;simp only[e1]at h;exact Ce hT e1 h
 by_cases hrg:∃ t x,o.op=.range t x
 ·obtain⟨t,x,e1⟩:=hrg;unfold nT at h;simp only[e1]at h;exact Ck hT e1 h
 by_cases hen:∃ x,o.op=.entry x
 ·obtain⟨x,e1⟩:=hen;unfold nT at h;simp only[e1]at h;exact Cd e1 h
 by_cases hlo:∃ t x i k,o.op=.lookup t x i k
 ·obtain⟨t,x,i,k,e1⟩:=hlo;unfold nT at h;simp only[e1]at h;exact Aq hT e1 h
 by_cases hme:∃ t m k,o.op=.mapEntry t m k
 ·obtain⟨t,m,k,e1⟩:=hme;unfold nT at h;simp only[e1]at h;exact xi hT e1 h
 by_cases hes:∃ t m s x,o.op=.entryStore t m s x
 ·obtain⟨t,m,s,x,e1⟩:=hes;unfold nT at h;simp only[e1]at h;split at h
  ·rename_i hd;exact sW hT e1 hd h
  ·exact h.elim
 by_cases hup:∃ t m k v,o.op=.mapUpdate t m k v
 ·obtain⟨t,m,k,v,e1⟩:=hup;unfold nT at h;simp only[e1]at h;split at h
  ·rename_i hd;exact Ar hT e1 hd h
  ·exact h.elim
 ·refine .inl ⟨?_,?_⟩
  ·unfold jI;split
   ·rename_i c e1;split
    ·rename_i f e2;exact absurd ⟨c,f,e1,e2⟩ hc
    ·rfl
   ·rfl
  ·unfold nT at h;unfold SO;generalize hop:o.op=op at h hc hc2 hmk hfi hrg hen hlo hme hes hup hsl hst hld hix hap ⊢;cases op with
   |makeMap t r=>exact absurd ⟨t,r,rfl⟩ hmk
   |field t x f=>exact absurd ⟨t,x,f,rfl⟩ hfi
   |range t x=>exact absurd ⟨t,x,rfl⟩ hrg
   |entry x=>exact absurd ⟨x,rfl⟩ hen
   |lookup t x i k=>exact absurd ⟨t,x,i,k,rfl⟩ hlo
   |mapUpdate t m k v=>exact absurd ⟨t,m,k,v,rfl⟩ hup
   |mapEntry t m k=>exact absurd ⟨t,m,k,rfl⟩ hme
   |entryStore t m s x=>exact absurd ⟨t,m,s,x,rfl⟩ hes
   | call c=>
     simp only at h ⊢;cases hcal:c.callee with
     | value x=>
       cases x with
       |func f=>exact absurd ⟨c,f,rfl,hcal⟩ hc
       |tmp t=>exact absurd ⟨c,t,rfl,hcal⟩ hc2
       |_=>simp only[hcal]at h;exact h.elim
     | builtin b=>
       simp only[hcal]at h ⊢;cases b with
       | len=>
         simp only at h ⊢;split at h
         ·rename_i x t e1 e2;simp only[e1,e2];rcases hT.sl t with e|⟨_,e,e3⟩
          ·simp[e,Rd.Runs]at h
          simp only[e,e3,Vp,if_true]at h ⊢;refine dH ?_ h;intro a ls h;exact ID h
         ·exact h.elim
       | append=>
         simp only at h ⊢;split at h
         ·rename_i s x t t' e1 e2;exfalso;refine hap ⟨s,x,t,t',?_⟩;rw[<-hcal, <-AR e1, <-yG e2]
         ·exact h.elim
       |min=>simp only[IK]at h ⊢;exact h
       |max=>simp only[IK]at h ⊢;exact h
       |_=>exact h
     |_=>simp only[hcal]at h;exact h.elim
   |box t x=>exact JW hT h
   |alloc t=>exact Ei hT h
   |build t parts=>exact Ek hT h
   |fieldAddr s x f=>exact xd hT h
   |buildSlice t len parts=>exact uz hT h
   |load t x=>exact absurd ⟨t,x,rfl⟩ hld
   |store t x y=>exact absurd ⟨t,x,y,rfl⟩ hst
   |indexAddr t x i=>exact absurd ⟨t,x,i,rfl⟩ hix
   |binOp op t x y t'=>exact JS hT h
   |unOp op t x=>exact Mx h
   |makeSlice t l c=>exact GJ hT h
   |slice t x lo hi mx=>exact absurd ⟨t,x,lo,hi,mx,rfl⟩ hsl
   |assign x=>exact h
   |pick c a b=>exact h
   | convert s t x=>
     simp only at h ⊢;refine pT ?_ h;intro _ a ls h;rcases hT.it s with e|⟨k1,e,e3⟩
     ·simp[e,Rd.Runs]at h
     rcases hT.it t with f|⟨k2,f,f3⟩
     ·simp[e,f,Rd.Runs]at h
     simp only[e,e3,f,f3]at h ⊢;exact h
   |_=>exact h
end
end Go.V
namespace Go.V
def Ho (b:Bool)(A B:Unit->Prop):Prop:=(Vq (motive:=fun _=>Unit->Prop) B A b:Unit->Prop) ()
theorem cP {b:Bool}{A B:Unit->Prop}(h1:b=true->A ())(h2:b=false->B ()):(Vq (motive:=fun _=>Unit->Prop) B A b:Unit->Prop) ():=by
 cases b with
 |true=>exact h1 rfl
 |false=>exact h2 rfl
def Rd.wpU {α:Type}(g:Gm):Rd α->List Loc->(List Loc->α->Prop)->Prop
 | .fail,_,_=>False
 | .ret a,t,K=>K t a
 | .get l k,t,K=>(k (g l)).wpU g (l::t) K
 | .req c k,t,K=>c/\k.wpU g t K
 | .br b k1 k2,t,K=>Ho b (fun _=>k1.wpU g t K) (fun _=>k2.wpU g t K)
 | .peek r j ln k,t,K=>(k (dy ln (g (.leaf r j)))).wpU g (.hd r j::t) K
theorem Rd.wpU_runs {α:Type}{g:Gm}:∀ {rd:Rd α} {t:List Loc} {K:List Loc->α->Prop},rd.wpU g t K->∃ ls x t',rd.Runs g ls x/\K t' x/\(∀ l∈ls,l∈t')/\(∀ l∈t,l∈t')
 | .fail,_,_,h=>h.elim
 | .ret b,t,_,h=>⟨[],b,t,⟨rfl,rfl⟩,h,by simp,fun _ h=>h⟩
 | .get l k,t,_,h=>by
   obtain⟨ls,x,t',h1,h2,h3,h4⟩:=Rd.wpU_runs (rd:=k (g l)) h;refine⟨l::ls,x,t',⟨ls,rfl,h1⟩,h2,?_,fun y hy=>h4 y (by simp[hy])⟩;intro y hy;rcases Zl.1 hy with rfl|hy;exact h4 _ (by simp);exact h3 _ hy
 | .req c k,t,_,h=>by
   obtain⟨ls,x,t',h1,h2,h3⟩:=Rd.wpU_runs (rd:=k) h.2;exact⟨ls,x,t',⟨h.1,h1⟩,h2,h3⟩
 | .br b k1 k2,t,_,h=>by
   cases b with
   |true=>obtain⟨ls,x,t',h1,h2⟩:=Rd.wpU_runs (rd:=k1) h;exact⟨ls,x,t',.inl ⟨rfl,h1⟩,h2⟩
   |false=>obtain⟨ls,x,t',h1,h2⟩:=Rd.wpU_runs (rd:=k2) h;exact⟨ls,x,t',.inr ⟨rfl,h1⟩,h2⟩
 | .peek r j ln k,t,K,h=>by
   obtain⟨ls,x,t',h1,h2,h3,h4⟩:=Rd.wpU_runs (rd:=k (dy ln (g (.leaf r j)))) h;refine⟨.hd r j::ls,x,t',⟨ls,rfl,h1⟩,h2,?_,fun y hy=>h4 y (by simp[hy])⟩;intro y hy;rcases Zl.1 hy with rfl|hy;exact h4 _ (by simp);exact h3 _ hy
def yr:Ln:=⟨List.length,fun _ _ h=>h⟩
theorem H6 {ln:Ln}{x y:Option Val}(h:dy yr x=dy yr y):dy ln x=dy ln y:=by
 unfold dy at h ⊢
 repeat' split at h
 all_goals first|(cases h;done)|rfl|(simp only[Ya,XV]at h;obtain⟨h1,h2,h3⟩:=h;simp only[*];rw[ln.ok _ _ h3])|(simp only[*])
def same (g g':Gm):Loc->Prop
 | .hd r j=>g' (.hd r j)=g (.hd r j)/\dy yr (g' (.leaf r j))=dy yr (g (.leaf r j))
 |l=>g' l=g l
theorem same.get {g g':Gm}{l:Loc}(h:same g g' l):g' l=g l:=by
 cases l<;>first|exact h|exact h.1
theorem Rd.Runs_congr {α:Type}{g g':Gm}:∀ {rd:Rd α} {ls:List Loc} {x:α},rd.Runs g ls x->(∀ l∈ls,same g g' l)->rd.Runs g' ls x
 | .fail,_,_,h,_=>h
 | .ret b,_,_,h,_=>h
 | .get l k,_,_,h,hg=>by
   obtain⟨ls',e,h⟩:=h;subst e;refine⟨ls',rfl,?_⟩;rw[(hg l (by simp)).get];exact Rd.Runs_congr h (fun y hy=>hg y (by simp[hy]))
 | .req c k,_,_,h,hg=>⟨h.1,Rd.Runs_congr h.2 hg⟩
 | .br b k1 k2,_,_,h,hg=>by
   rcases h with⟨e,h⟩|⟨e,h⟩;exact .inl ⟨e,Rd.Runs_congr h hg⟩;exact .inr ⟨e,Rd.Runs_congr h hg⟩
 | .peek r j ln k,_,_,h,hg=>by
   obtain⟨ls',e,h⟩:=h;subst e;refine⟨ls',rfl,?_⟩;have e:=hg (.hd r j) (by simp);rw[H6 (ln:=ln) e.2];exact Rd.Runs_congr h (fun y hy=>hg y (by simp[hy]))
def FM (n:Nat)(o:Oper)(ws:List W):Prop:=
 match o.dst with
 |some d=>d<n/\ws=[.reg d (.one (.v undef))]
 |none=>ws=[]
def yN (P:Program)(n:Nat)(all:Array Oper)(o:Oper)(g:Gm)(t:List Loc)(ws:List W):Prop:=
 ∃ ls b,(vX all o).Runs g ls b/\(∀ l∈ls,l∈t)/\
  ((b=true/\∃ ls2,eg P n o g ls2 ws/\∀ l∈ls2,l∈t)\/(b=false/\FM n o ws))
theorem eg.congr {P:Program}{n:Nat}{o:Oper}{g g':Gm}{ls:List Loc}{ws:List W}(h:eg P n o g ls ws)(hg:∀ l∈ls,same g g' l):eg P n o g' ls ws:=by
 rcases h with⟨h1,h2⟩|⟨f,ts,args,ds,mk,res,h1,h2,h3,h4⟩|⟨f,ts,args,mk,h1,h2,h3⟩|⟨rd,h1,h2⟩;exact .inl ⟨h1,Rd.Runs_congr h2 hg⟩;exact .inr (.inl ⟨f,ts,args,ds,mk,res,h1,Rd.Runs_congr h2 hg,h3,h4⟩);exact .inr (.inr (.inl ⟨f,ts,args,mk,h1,h2,Rd.Runs_congr h3 hg⟩));exact .inr (.inr (.inr ⟨rd,h1,Rd.Runs_congr h2 hg⟩))
theorem yN.congr {P:Program}{n:Nat}{all:Array Oper}{o:Oper}{g g':Gm}{t:List Loc}{ws:List W}(h:yN P n all o g t ws)(hg:∀ l∈t,same g g' l):yN P n all o g' t ws:=by
 obtain⟨ls,b,h1,h2,h3⟩:=h;refine⟨ls,b,Rd.Runs_congr h1 (fun l hl=>hg l (h2 l hl)),h2,?_⟩;rcases h3 with⟨e,ls2,h4,h5⟩|h3;exact .inl ⟨e,ls2,h4.congr (fun l hl=>hg l (h5 l hl)),h5⟩;exact .inr h3
section
variable {P: Program} {cx: Cx} {a: Act} {w: World}
theorem eg.sound {o:Oper}{g:Gm}{ls:List Loc}{ws:List W}(h:eg P cx.n o g ls ws)(hS:d6 cx g a w){K:Act->World->Prop}{Q:Exit->Act->World->Prop} 
 (hk:∀ a' w',d6 cx (aU g ws) a' w'->K a' w'):o.wp P a w K Q:=by
 obtain⟨G,hS⟩:=hS;rcases h with⟨_,h2⟩|⟨f,ts,args,ds,mk,res,h1,h2,h3,rfl⟩|⟨f,ts,args,mk,h1,h2,h3⟩|⟨rd,h1,h2⟩;exact GL hS h2 hk;exact Cc (oq h1) hS h2 h3 hk;exact Aj (oq h1) hS h3 h2 hk;exact h1 cx G g a w _ _ rfl hS h2 K Q hk
theorem yN.sound {all:Array Oper}{o:Oper}{g:Gm}{t:List Loc}{ws:List W}(h:yN P cx.n all o g t ws)(hS:d6 cx g a w){K:Act->World->Prop}{Q:Exit->Act->World->Prop} 
 (hk:∀ a' w',d6 cx (aU g ws) a' w'->K a' w'):
 if Region.wanted o (yielded all a.tmps)then o.wp P a w K Q\/(o.asks P a w/\LetsOut Q)else K (a.put o.dst undef) w:=by
 obtain⟨ls,b,h1,_,h3⟩:=h;obtain⟨G,hG⟩:=id hS;have hw:=zm hG h1;rcases h3 with⟨rfl,ls2,h4,_⟩|⟨rfl,h3⟩
 ·rw[VT hw];exact .inl (h4.sound hS hk)
 ·rw[VU (by rw[hw];simp)];unfold FM at h3;cases hd:o.dst with
  | none=>
    simp only[hd]at h3;subst h3;exact hk _ _ (by simpa[Act.put,aU]using hS)
  | some d=>
    simp only[hd]at h3;obtain⟨hlt,rfl⟩:=h3;refine hk _ _ ⟨G,?_⟩;exact hG.put hlt (by simp[cM,gW])
end
inductive WK where
 |reg (d:Nat)
 |leaf (r j:Nat)
 |root (r:Nat)
 |gap (r j:Nat)
def keyOf:W->WK
 | .reg d _=>.reg d
 | .leaf r j _=>.leaf r j
 | .root r _ _=>.root r
 | .gap r j _=>.gap r j
def WK.hits:WK->Loc->Bool
 | .reg d,.reg d'=>d.beq d'
 | .leaf r j,.leaf r' j'=>r.beq r'&&j.beq j'
 | .gap r j,.leaf r' j'=>r.beq r'&&j.beq j'
 | .root r,.leaf r' _=>r.beq r'
 | .root r,.meta_ r'=>r.beq r'
 |_,_=>false
def WK.hitR:WK->Loc->Bool
 | .leaf r j,.hd r' j'=>r.beq r'&&j.beq j'
 | .root r,.hd r' _=>r.beq r'
 |k,l=>k.hits l
def cJ (ws:List W)(l:Loc):Bool:=ws.any fun x=>(keyOf x).hits l
def eY (ws:List W)(l:Loc):Bool:=ws.any fun x=>(keyOf x).hitR l
theorem iJ {g:Gm}{x:W}{l:Loc}(h:(keyOf x).hits l=false):x.app g l=g l:=by
 cases x<;>cases l<;>simp only[keyOf,WK.hits,W.app]at h ⊢ <;>first|rfl|(rw[VU];intro e;cases e;simp at h)|(rw[VU];intro e;subst e;simp at h)
theorem Ew {g g':Gm}{x:W}{l:Loc}(h:(keyOf x).hits l=true):x.app g l=x.app g' l:=by
 cases x<;>cases l<;>simp_all [keyOf,WK.hits,W.app]
theorem mR {l:Loc}:∀ {ws:List W} {g:Gm},cJ ws l=false->aU g ws l=g l
 |[],_,_=>rfl
 | x::ws,g,h=>by
   simp only[cJ,Xq,Xr]at h;simp only[aU];rw[mR (ws:=ws) h.2,iJ h.1]
theorem yP {l:Loc}:∀ {ws:List W} {g g':Gm},g l=g' l->aU g ws l=aU g' ws l
 |[],_,_,h=>h
 | x::ws,g,g',h=>by
   simp only[aU];refine yP (ws:=ws) ?_;cases hx:(keyOf x).hits l with
   |true=>exact Ew hx
   |false=>rw[iJ hx,iJ hx,h]
theorem qm {l:Loc}:∀ {ws:List W} {g g':Gm},cJ ws l=true->aU g ws l=aU g' ws l
 |[],_,_,h=>by simp[cJ]at h
 | x::ws,g,g',h=>by
   simp only[cJ,Xq,Z4]at h;simp only[aU];cases hx:(keyOf x).hits l with
   |true=>exact yP (Ew hx)
   | false=>
     rw[hx]at h;exact qm (h.resolve_left (by simp))
def nD (g:Gm)(ws:List W):Prop:=∀ r j,eY ws (.hd r j)=false->dy yr (aU g ws (.leaf r j))=dy yr (g (.leaf r j))
def Bc (O:CF)(g:Gm):List W->Prop->Prop
 |[],K=>K
 | .gap r j x::ws,K=>match x.c with
   | .own (.s sz es)=>match g (.leaf r j)with
     | some (.h y)=>match y.c with
       | .own (.s sz' es')=>match x.ver.beq y.ver&&sz.beq sz' with
         |true=>O.pr (fun _=>es.length=es'.length)/\Bc O g ws K
         |false=>False
       |_=>False
     |_=>False
   |_=>False
 |_::ws,K=>Bc O g ws K
theorem vS {g:Gm}{K:Prop}:∀ {ws:List W},Bc aj g ws K->K
 |[],h=>h
 | .reg _ _::ws,h=>vS (ws:=ws) h
 | .leaf _ _ _::ws,h=>vS (ws:=ws) h
 | .root _ _ _::ws,h=>vS (ws:=ws) h
 | .gap r j x::ws,h=>by
   simp only[Bc]at h
   repeat' split at h
   all_goals first|exact h.elim|exact vS h.2
theorem qS {g:Gm}{K:Prop}{r j:Nat}:∀ {ws:List W} {g':Gm},Bc aj g ws K->dy yr (g' (.leaf r j))=dy yr (g (.leaf r j))->eY ws (.hd r j)=false->dy yr (aU g' ws (.leaf r j))=dy yr (g (.leaf r j))
 |[],_,_,h,_=>h
 | .reg d x::ws,g',h,e,ht=>by
   simp only[eY,Xq,Xr]at ht;refine qS (ws:=ws) h ?_ ht.2;rw[iJ (by rfl)];exact e
 | .leaf r' j' x::ws,g',h,e,ht=>by
   simp only[eY,Xq,Xr]at ht;refine qS (ws:=ws) h ?_ ht.2;rw[iJ (by simpa[keyOf,WK.hits,WK.hitR]using ht.1)];exact e
 | .root r' b hs::ws,g',h,e,ht=>by
   simp only[eY,Xq,Xr]at ht;refine qS (ws:=ws) h ?_ ht.2;rw[iJ (by simpa[keyOf,WK.hits,WK.hitR]using ht.1)];exact e
 | .gap r' j' x::ws,g',h,e,ht=>by
   simp only[eY,Xq,Xr]at ht;have h':=h;simp only[Bc]at h'
   repeat' split at h'
   all_goals first|exact h'.elim|skip
   rename_i sz es hx _ y hy _ sz' es' hc _ hb;refine qS (ws:=ws) h'.2 ?_ ht.2;by_cases q:r=r'/\j=j'
   ·obtain⟨rfl,rfl⟩:=q;have h3:es.length=es'.length:=h'.1;simp only[Zc]at hb;have b1:=Z5 hb.1;have b2:=Z5 hb.2;simp only[W.app,if_true,dy,hx,hy,hc,yr,b1,b2,h3]
   ·rw[iJ (by
     simp only[keyOf,WK.hits];cases c1:ZL r' r with
     |false=>rfl
     | true=>
       cases c2:ZL j' j with
       |false=>rfl
       |true=>exact absurd ⟨(Z5 c1).symm,(Z5 c2).symm⟩ q)]
    exact e
theorem nD.of {g:Gm}{ws:List W}{K:Prop}(h:Bc aj g ws K):nD g ws:=fun _ _ ht=>qS h rfl ht
theorem nD.reg {g:Gm}{d:Nat}{x:R}:nD g [.reg d x]:=nD.of (K:=True) trivial
theorem nD.nil {g:Gm}:nD g []:=nD.of (K:=True) trivial
abbrev Tr :=List (List Loc×List WK)
def C6 (all:Array Oper)(o:Oper)(σ:VS)(K:VS->List Loc->Bool->Prop):Prop:=
 match o.guard with
 |none=>K σ [] true
 | some (j,want)=>match all[j]? with
   | some o'=>match o'.dst with
     | some d=>match get σ (.reg d)with
       |some (.r (.one (.v (.bool b))))=>Ho b (fun _=>K (.reg d (.k true)::σ) [.reg d] (true==want)) (fun _=>K (.reg d (.k false)::σ) [.reg d] (false==want))
       |some (.r (.one (.v (.tuple _))))=>K σ [.reg d] false
       |_=>False
     |none=>False
   |none=>False
section
variable (T: xz) (O: CF) (ct: Ev) (n: Nat)
def yK (all:Array Oper):List Oper->VS->Tr->(VS->Tr->Prop)->Prop
 |[],σ,acc,K=>K σ acc
 | o::rest,σ,acc,K=>C6 all o σ fun σ t b=>match b with
   | true=>(nT T O ct n o).wpU (get σ) t fun t out=>match out with
     | .ws ws=>Bc O (get σ) ws (yK all rest (push σ ws) ((t,ws.map keyOf)::acc) K)
     | .call _ _ _=>False
   | false=>match o.dst with
     |some d=>if d<n then yK all rest (.reg d (.one (.v undef))::σ) ((t,[.reg d])::acc) K else False
     |none=>yK all rest σ ((t,[])::acc) K
end
inductive GP (P:Program)(n:Nat)(all:Array Oper):List Oper->Gm->List (List Loc×List W)->Gm->Prop where
 |nil (g:Gm):GP P n all [] g [] g
 |cons {o:Oper} {rest:List Oper} {g g':Gm} {t:List Loc} {ws:List W} {xs:List (List Loc×List W)}:yN P n all o g t ws->nD g ws->GP P n all rest (aU g ws) xs g'->GP P n all (o::rest) g ((t,ws)::xs) g'
theorem Bi {σ:VS}{d:Nat}{x:R}(h:get σ (.reg d)=some (.r x)):get (.reg d x::σ)=get σ:=by
 funext l
 simp only[get,W.app];split
 ·rename_i e;rw[e,h]
 ·rfl
theorem Bj {all:Array Oper}{o:Oper}{σ:VS}{K:VS->List Loc->Bool->Prop}(h:C6 all o σ K):
 ∃ σ1 t b,get σ1=get σ/\(vX all o).Runs (get σ) t b/\K σ1 t b:=by
 unfold C6 at h;unfold vX;cases hg:o.guard with
 |none=>simp only[hg]at h;exact⟨σ,[],true,rfl,⟨rfl,rfl⟩,h⟩
 | some jw=>
   obtain⟨j,want⟩:=jw;simp only[hg]at h ⊢;cases ho:all[j]? with
   |none=>simp[ho]at h
   | some o'=>
     simp only[ho,YJ]at h ⊢;cases hd:o'.dst with
     |none=>simp[hd]at h
     | some d=>
       simp only[hd]at h ⊢;cases hx:get σ (.reg d)with
       |none=>simp[hx]at h
       | some v=>
         cases v with
         |h x=>simp[hx]at h
         |m a b=>simp[hx]at h
         | r x=>cases x with
           |agg as=>simp[hx]at h
           |tup rs=>simp[hx]at h
           | one a=>cases a with
             | v y=>cases y with
               | bool b=>
                 simp only[hx]at h;cases b with
                 |true=>exact⟨_,_,_,Bi hx,by simp[AG,rd,Rd.Runs,hx],h⟩
                 |false=>exact⟨_,_,_,Bi hx,by simp[AG,rd,Rd.Runs,hx],h⟩
               | tuple vs=>
                 simp only[hx]at h;exact⟨σ,_,_,rfl,by simp[AG,rd,Rd.Runs,hx],h⟩
               |_=>simp[hx]at h
             |_=>simp[hx]at h
theorem pp {P:Program}{T:xz}(hT:bJ P T){ct:Ev}(hct:uV P ct){n:Nat}{all:Array Oper}:∀ (ops:List Oper) (σ:VS) (acc:Tr) (K:VS->Tr->Prop),yK T aj ct n all ops σ acc K->
 ∃ xs σ',GP P n all ops (get σ) xs (get σ')/\K σ' ((xs.map fun x=>(x.1,x.2.map keyOf)).reverse++acc)
 |[],σ,acc,K,h=>⟨[],σ,.nil _,h⟩
 | o::rest,σ,acc,K,h=>by
   simp only[yK]at h;obtain⟨σ1,t,b,e1,h1,h2⟩:=Bj h;cases b with
   | true=>
     simp only at h2;obtain⟨ls2,out,t2,k1,k2,k3,k4⟩:=Rd.wpU_runs h2;cases out with
     |call f ds mk=>exact k2.elim
     | ws ws=>
       simp only at k2;have k5:=nD.of k2;obtain⟨xs,σ',m1,m2⟩:=pp hT hct rest _ _ _ (vS k2);rw[Bf]at m1;rw[e1]at m1 k1 k5;refine⟨(t2,ws)::xs,σ',.cons ⟨t,true,h1,fun l hl=>k4 l hl,.inl ⟨rfl,ls2,JY hT hct k1,k3⟩⟩ k5 m1,?_⟩
       simpa using m2
   | false=>
     simp only at h2;cases hd:o.dst with
     | none=>
       simp only[hd]at h2;obtain⟨xs,σ',m1,m2⟩:=pp hT hct rest _ _ _ h2;rw[e1]at m1;refine⟨(t,[])::xs,σ',.cons ⟨t,false,h1,fun l hl=>hl,.inr ⟨rfl,by simp[FM,hd]⟩⟩ .nil m1,?_⟩
       simpa using m2
     | some d=>
       simp only[hd]at h2;split at h2
       ·rename_i hlt;obtain⟨xs,σ',m1,m2⟩:=pp hT hct rest _ _ _ h2;have e2:get (W.reg d (.one (.v undef))::σ1)=aU (get σ) [W.reg d (.one (.v undef))]:=by
         simp only[get,aU,e1]
        rw[e2]at m1;refine⟨(t,[.reg d (.one (.v undef))])::xs,σ',.cons ⟨t,false,h1,fun l hl=>hl,.inr ⟨rfl,by simp[FM,hd,hlt]⟩⟩ .reg m1,?_⟩
        simpa[keyOf]using m2
       ·exact h2.elim
theorem GP.text {P:Program}{cx:Cx}{all:Array Oper}{Q:Exit->Act->World->Prop}:∀ {ops:List Oper} {g g':Gm} {xs:List (List Loc×List W)} {a:Act} {w:World},GP P cx.n all ops g xs g'->d6 cx g a w->
 (∀ a' w',d6 cx g' a' w'->Q .normal a' w')->wpList P all Q ops a w
 |_,_,_,_,a,w,.nil g,hS,hk=>hk a w hS
 | _,_,_,_,a,w,.cons he _ hr,hS,hk=>by
   simp only[wpList];exact he.sound hS (fun a' w' hs=>hr.text hs hk)
end Go.V
namespace Go.V
def WK.clash:WK->WK->Bool
 | .reg d,.reg d'=>d.beq d'
 | .leaf r j,.leaf r' j'=>r.beq r'&&j.beq j'
 | .root r,.leaf r' _=>r.beq r'
 | .leaf r _,.root r'=>r.beq r'
 | .root r,.root r'=>r.beq r'
 | .gap r j,.gap r' j'=>r.beq r'&&j.beq j'
 | .gap r j,.leaf r' j'=>r.beq r'&&j.beq j'
 | .leaf r j,.gap r' j'=>r.beq r'&&j.beq j'
 | .root r,.gap r' _=>r.beq r'
 | .gap r _,.root r'=>r.beq r'
 |_,_=>false
theorem AX {k k':WK}{l:Loc}(h:k.hits l=true)(h':k'.hits l=true):k.clash k'=true:=by
 cases k<;>cases k'<;>cases l<;>simp_all [WK.hits,WK.clash]
def sel (bP:Nat->List W)(p:Nat->Bool)(m:Nat):List W:=((Zo m).filter p).flatMap bP
theorem o6 (bP:Nat->List W)(l:Loc):∀ (is:List Nat) (g:Gm),aU g (is.flatMap bP) l=aU g ((is.filter fun i=>cJ (bP i) l).flatMap bP) l
 |[],g=>rfl
 | i::is,g=>by
   simp only[Y8,List.filter_cons,cp];cases h:cJ (bP i) l with
   |true=>simp only[if_true,Y8,cp];exact o6 bP l is _
   | false=>
     simp only[Yj,if_false];rw[<-o6 bP l is g];exact yP (mR h)
theorem pd {bP:Nat->List W}{p q:Nat->Bool}{m:Nat}{l:Loc}{g:Gm}(h:∀ i,i<m->cJ (bP i) l=true->p i=q i):aU g (sel bP p m) l=aU g (sel bP q m) l:=by
 unfold sel;rw[o6,o6 bP l ((Zo m).filter q)];have e:((Zo m).filter p).filter (fun i=>cJ (bP i) l)=((Zo m).filter q).filter (fun i=>cJ (bP i) l):=by
  rw[WG,WG];refine XI ?_;intro i hi;rw[Yf]at hi;cases ht:cJ (bP i) l with
  |true=>simp[h i hi ht]
  |false=>simp
 rw[e]
theorem JB {bP:Nat->List W}{q:Nat->Bool}{m j:Nat}{l:Loc}{g g':Gm}(hj:j<m)(hq:q j=true)(ht:cJ (bP j) l=true)(h:∀ i,j<i->i<m->cJ (bP i) l=true->q i=false):
 aU g (sel bP q m) l=aU g' (bP j) l:=by
 have e:aU g (sel bP q m) l=aU g (sel bP (fun i=>q i&&decide (i<=j)) m) l:=by
  refine pd ?_;intro i hi hti;rcases Yb j i with c|c
  ·rw[h i c hi hti];rfl
  ·simp[c]
 rw[e];have hs:(Zo m).filter (fun i=>q i&&decide (i<=j))=((Zo j).filter q)++[j]:=by
  have:Zo m=Zo j++[j]++(Zo (m- (j+1))).map (fun x=>(j+1)+x):=by
   have e1:Zo (j+1+(m- (j+1)))=Zo (j+1)++(Zo (m- (j+1))).map (fun x=>(j+1)+x):=Wr;rw[show j+1+(m- (j+1))=m from by omega]at e1;rw[e1,WH]
  rw[this,XY,XY];have e2:(List.map (fun x=>j+1+x) (Zo (m- (j+1)))).filter (fun i=>q i&&decide (i<=j))=[]:=by
   rw[XZ];intro a ha;obtain⟨x,_,rfl⟩:=ZW.1 ha;simp;intro _;omega
  have e3:(Zo j).filter (fun i=>q i&&decide (i<=j))=(Zo j).filter q:=by
   refine XI ?_;intro i hi;rw[Yf]at hi;simp[Nat.le_of_lt hi]
  rw[e2,e3];simp[hq]
 unfold sel;rw[hs,X0,cp];simp only[Y8,List.flatMap_nil,ZY];exact qm ht
theorem BO {bP:Nat->List W}{p:Nat->Bool}{m:Nat}{g:Gm}:aU g (sel bP p (m+1))=aU (aU g (sel bP p m)) (if p m=true then bP m else[]):=by
 unfold sel;rw[WH,XY,X0,cp];cases h:p m<;>simp[h]
theorem BX {ws:List W}{r j:Nat}(h:eY ws (.hd r j)=true):cJ ws (.leaf r j)=true:=by
 unfold eY at h;unfold cJ;rw[YW]at h ⊢;obtain⟨x,h1,h2⟩:=h;refine⟨x,h1,?_⟩;cases x<;>simp_all [keyOf,WK.hitR,WK.hits]
theorem Ea {bP:Nat->List W}{g:Gm}{r j:Nat}{p:Nat->Bool}:∀ {m:Nat},
 (∀ k,k<m->p k=true->cJ (bP k) (.leaf r j)=true->∀ i,i<k->cJ (bP i) (.leaf r j)=true->p i=true)->
 (∀ k,k<m->eY (bP k) (.hd r j)=false->dy yr (aU (aU g (sel bP (fun _=>true) k)) (bP k) (.leaf r j))=dy yr (aU g (sel bP (fun _=>true) k) (.leaf r j)))->
 dy yr (aU g (sel bP p m) (.leaf r j))=dy yr (aU g (sel bP (fun i=>p i&&eY (bP i) (.hd r j)) m) (.leaf r j))
 |0,_,_=>rfl
 | m+1,hc,hg=>by
   have ih:=Ea (m:=m) (fun k hk=>hc k (by omega)) (fun k hk=>hg k (by omega));rw[BO,BO];cases hp:p m with
   |false=>simpa[hp,aU]using ih
   | true=>
     cases ht:eY (bP m) (.hd r j)with
     | true=>
       simp only[hp,ht,Bool.and_self,if_true];rw[qm (BX ht)]
     | false=>
       simp only[hp,ht,Bool.and_false,if_true,Yj,if_false];show _=dy yr (aU g (sel bP (fun i=>p i&&eY (bP i) (.hd r j)) m) (.leaf r j));rw[<-ih];cases hl:cJ (bP m) (.leaf r j)with
       |false=>rw[mR hl]
       | true=>
         have e1:aU (aU g (sel bP p m)) (bP m) (.leaf r j)=aU (aU g (sel bP (fun _=>true) m)) (bP m) (.leaf r j):=qm hl;rw[e1,hg m (by omega) ht];rw[pd (q:=fun _=>true) (p:=p) (fun i hi hti=>hc m (by omega) hp hl i hi hti)]
theorem JA {bP:Nat->List W}{g:Gm}{r j:Nat}{p q:Nat->Bool}{m:Nat} 
 (hp:∀ k,k<m->p k=true->cJ (bP k) (.leaf r j)=true->∀ i,i<k->cJ (bP i) (.leaf r j)=true->p i=true)
 (hq:∀ k,k<m->q k=true->cJ (bP k) (.leaf r j)=true->∀ i,i<k->cJ (bP i) (.leaf r j)=true->q i=true)
 (hg:∀ k,k<m->eY (bP k) (.hd r j)=false->dy yr (aU (aU g (sel bP (fun _=>true) k)) (bP k) (.leaf r j))=dy yr (aU g (sel bP (fun _=>true) k) (.leaf r j)))
 (h:∀ k,k<m->eY (bP k) (.hd r j)=true->p k=q k):
 dy yr (aU g (sel bP p m) (.leaf r j))=dy yr (aU g (sel bP q m) (.leaf r j)):=by
 rw[Ea hp hg,Ea hq hg]
 congr 2
 unfold sel
 congr 1
 refine XI ?_;intro i hi;cases ht:eY (bP i) (.hd r j)with
 |false=>simp
 |true=>simp[h i (Yf.1 hi) ht]
def pc (o:Oper):List Nat:=o.after.toList.filterMap fun e=>if Vr .any e then some e.on else none
def v8 (ms:List Nat):List Nat->Nat
 |[]=>0
 |p::ps=>(1<<<p)|||(ms.getD p 0|||v8 ms ps)
def Bw:List (List Nat)->List Nat->List Nat
 |[],acc=>acc
 |ds::rest,acc=>Bw rest (acc++[v8 acc ds])
def ni (x y:List Loc×List WK):Bool:=
 x.2.any fun k=>y.1.any (fun l=>k.hitR l)||y.2.any (fun k'=>k.clash k')
def mG (x y:List Loc×List WK):Bool:=y.2.any fun k=>x.1.any fun l=>k.hitR l
def Fv (mask:Nat)(y:List Loc×List WK):Nat->Tr->Bool
 |_,[]=>true
 |i,x::xs=>(mask.testBit i|| !(ni x y||mG x y))&&Fv mask y (i+1) xs
def wn:List Nat->Tr->Tr->Bool
 |m::ms,xs,y::ys=>Fv m y 0 xs&&wn ms (xs++[y]) ys
 |[],_,[]=>true
 |_,_,_=>false
def zE:Nat->List (List Nat)->Bool
 |_,[]=>true
 |i,ds::rest=>ds.all (fun p=>p.blt i)&&zE (i+1) rest
def ax (ops:Array Oper)(tr:Tr):Bool:=
 let ps:=ops.toList.map pc
 zE 0 ps&&wn (Bw ps []) [] tr
end Go.V
namespace Go.V
theorem GP.at {P:Program}{n:Nat}{all:Array Oper}:∀ {ops:List Oper} {g g':Gm} {xs:List (List Loc×List W)},GP P n all ops g xs g'->
 xs.length=ops.length/\g'=aU g (xs.flatMap (·.2))/\∀ j o,ops[j]?=some o->∃ t ws,xs[j]?=some (t,ws)/\yN P n all o (aU g ((xs.take j).flatMap (·.2))) t ws/\nD (aU g ((xs.take j).flatMap (·.2))) ws
 |_,_,_,_,.nil g=>⟨rfl,rfl,fun j o h=>by simp at h⟩
 | _,_,_,_,.cons (t:=t) (ws:=ws) he hg hr=>by
   obtain⟨h1,h2,h3⟩:=GP.at hr;refine⟨by simp[h1],by rw[h2];simp[cp],?_⟩;intro j o h;cases j with
   |zero=>simp at h;subst h;exact⟨t,ws,rfl,by simpa[aU]using he,by simpa[aU]using hg⟩
   | succ j=>
     simp at h;obtain⟨t',ws',e1,e2,e3⟩:=h3 j o h;exact⟨t',ws',by simpa using e1,by simpa[cp]using e2,by simpa[cp]using e3⟩
theorem sQ (xs:List (List Loc×List W)):∀ j,j<=xs.length->(xs.take j).flatMap (·.2)=(Zo j).flatMap fun i=>(xs.getD i ([],[])).2
 |0,_=>rfl
 | j+1,h=>by
   rw[List.take_succ,WH,X0,X0,sQ xs j (by omega)]
   congr 1
   rw[Zu (by omega)];simp[Zu (show j<xs.length by omega)]
theorem uv {m j:Nat}(h:j<=m):(Zo m).filter (fun i=>decide (i<j))=Zo j:=by
 have e1:Zo (j+(m-j))=Zo j++(Zo (m-j)).map (fun x=>j+x):=Wr;rw[show j+(m-j)=m from by omega]at e1;rw[e1,XY];have e2:((Zo (m-j)).map (fun x=>j+x)).filter (fun i=>decide (i<j))=[]:=by
  rw[XZ];intro a ha;obtain⟨x,_,rfl⟩:=ZW.1 ha;simp
 rw[e2,ZY];exact WI.2 (fun a ha=>by simpa using ha)
theorem v9 {S:Nat->Prop}{pr:Nat->List Nat}(hcl:∀ k,S k->∀ p∈pr k,S p):∀ (rest:List (List Nat)) (acc:List Nat),
 (∀ k ds,rest[k]?=some ds->pr (acc.length+k)=ds)->
 (∀ j,j<acc.length->∀ i,(acc.getD j 0).testBit i=true->(∀ p∈pr j,S p)->S i)->
 ∀ j,j<(Bw rest acc).length->∀ i,((Bw rest acc).getD j 0).testBit i=true->(∀ p∈pr j,S p)->S i
 |[],acc,_,h=>h
 | ds::rest,acc,hp,h=>by
   simp only[Bw];refine v9 hcl rest _ ?_ ?_
   ·intro k ds' hk;have:=hp (k+1) ds' (by simpa using hk);simp only[Zf,Zj,Zk];rw[<-this];congr 1;omega
   ·intro j hj i hi hS;simp only[Zf,Zj,Zk]at hj;rcases Yb j acc.length with c|c
    ·refine h j c i ?_ hS;rw[Zm,ZO c]at hi;rw[Zm];exact hi
    ·have hj':j=acc.length:=by omega
     subst hj';have e0:=hp 0 ds rfl;rw[Yr]at e0;rw[Zm,List.getElem?_append_right (Ze _)]at hi;simp only[Nat.sub_self,List.getElem?_cons_zero,ZZ]at hi;rw[e0]at hS;have key:∀ (ps:List Nat),(∀ p∈ps,S p)->(v8 acc ps).testBit i=true->S i:=by
      intro ps
      induction ps with
      |nil=>intro _ hb;simp[v8]at hb
      | cons p ps ih=>
        intro hps hb;simp only[v8,Nat.testBit_or,Z4]at hb;rcases hb with hb|hb|hb
        ·rw[Nat.one_shiftLeft,Nat.testBit_two_pow]at hb;simp at hb;subst hb;exact hps _ (by simp)
        ·rcases Yb p acc.length with c2|c2;exact h p c2 i hb (hcl p (hps p (by simp)))
         ·rw[Zm,Yc c2]at hb;simp at hb
        ·exact ih (fun q hq=>hps q (by simp[hq])) hb
     exact key ds hS hi
theorem wm {mask:Nat}{y:List Loc×List WK}:∀ {xs:Tr} {i0:Nat},Fv mask y i0 xs=true->∀ i x,xs[i]?=some x->mask.testBit (i0+i)=true\/(ni x y=false/\mG x y=false)
 |[],_,_,i,x,hx=>by simp at hx
 | x0::xs,i0,h,i,x,hx=>by
   simp only[Fv,Zc,Z4,Yv,Xr]at h;cases i with
   |zero=>simp at hx;subst hx;exact h.1
   | succ i=>
     simp at hx;have:=wm h.2 i x hx;rw[show i0+1+i=i0+(i+1)from by omega]at this;exact this
theorem tJ:∀ {ms:List Nat} {xs ys:Tr},wn ms xs ys=true->∀ j y,ys[j]?=some y->∃ m,ms[j]?=some m/\∀ i x,(xs++ys)[i]?=some x->i<xs.length+j->m.testBit i=true\/(ni x y=false/\mG x y=false)
 |[],_,[],_,j,y,hy=>by simp at hy
 |_::_,_,[],_,j,y,hy=>by simp at hy
 |[],_,_::_,h,_,_,_=>by simp[wn]at h
 | m::ms,xs,y0::ys,h,j,y,hy=>by
   simp only[wn,Zc]at h;cases j with
   | zero=>
     simp at hy;subst hy;refine⟨m,rfl,?_⟩;intro i x hx hi;rw[ZO (by omega)]at hx;have:=wm h.1 i x hx
     rwa [ZS]at this
   | succ j=>
     simp at hy;obtain⟨m',e1,e2⟩:=tJ h.2 j y hy;refine⟨m',by simpa using e1,?_⟩;intro i x hx hi;refine e2 i x (by simpa using hx) (by simp;omega)
theorem tH:∀ {pss:List (List Nat)} {i0:Nat},zE i0 pss=true->∀ i ps,pss[i]?=some ps->∀ p∈ps,p<i0+i
 |[],_,_,i,ps,h=>by simp at h
 | q::pss,i0,h,i,ps,hi=>by
   simp only[zE,Zc,List.all_eq_true]at h;cases i with
   | zero=>
     simp at hi;subst hi;intro p hp;have:=h.1 p hp;have h2:p+1<=i0:=by simpa[WJ]using this
     omega
   | succ i=>
     simp at hi;intro p hp;have:=tH h.2 i ps hi p hp;omega
end Go.V
namespace Go.V
def mN (listed:Array Bool)(i:Nat):Bool:=listed.getD i false
theorem qV {listed:Array Bool}{i k:Nat}(hi:i<listed.size):mN (listed.setIfInBounds i true) k=(mN listed k||decide (k=i)):=by
 unfold mN;by_cases e:k=i
 ·subst e;simp[hi]
 ·rw[getD_set_ne false (Ne.symm e)];simp[e]
def oQ (ops:Array Oper)(k:Nat):List Nat:=match ops[k]? with
 |some o=>pc o
 |none=>[]
theorem tD {o:Oper}{p:Nat}:p∈pc o↔∃ e∈o.after,Vr .any e=true/\e.on=p:=by
 unfold pc;simp only[List.mem_filterMap,Array.mem_toList_iff]
 constructor
 ·rintro⟨e,he,h⟩;split at h
  ·rename_i hb;cases h;exact⟨e,he,hb,rfl⟩
  ·cases h
 ·rintro⟨e,he,hb,rfl⟩;exact⟨e,he,by simp[hb]⟩
theorem wU {ws:List W}{l:Loc}:eY ws l=true↔∃ k∈ws.map keyOf,k.hitR l=true:=by
 unfold eY;simp only[YW,ZW]
 constructor
 ·rintro⟨x,h1,h2⟩;exact⟨_,⟨x,h1,rfl⟩,h2⟩
 ·rintro⟨k,⟨x,h1,rfl⟩,h2⟩;exact⟨x,h1,h2⟩
theorem E0 {k:WK}{l:Loc}(h:k.hits l=true):k.hitR l=true:=by cases k<;>cases l<;>simp_all [WK.hits,WK.hitR]
theorem jz {ws:List W}{l:Loc}:cJ ws l=true↔∃ k∈ws.map keyOf,k.hits l=true:=by
 unfold cJ;simp only[YW,ZW]
 constructor
 ·rintro⟨x,h1,h2⟩;exact⟨_,⟨x,h1,rfl⟩,h2⟩
 ·rintro⟨k,⟨x,h1,rfl⟩,h2⟩;exact⟨x,h1,h2⟩
section
variable {P: Program} {cx: Cx} {ops: Array Oper} {Q: Exit -> Act -> World -> Prop} {g0 gm: Gm} {xs: List (List Loc × List W)}
theorem DI {tr:Tr}(hok:ax ops tr=true){j p:Nat}(hp:p∈oQ ops j):p<j:=by
 simp only[ax,Zc]at hok;unfold oQ at hp;cases ho:ops[j]? with
 |none=>simp[ho]at hp
 | some o=>
   simp only[ho]at hp;have:=tH hok.1 j (pc o) (by simp[ho]) p hp;omega
theorem ng {tr:Tr}(hok:ax ops tr=true){S:Nat->Prop}(hcl:∀ k,S k->∀ p∈oQ ops k,S p){i j:Nat}{x y:List Loc×List WK}(hij:i<j)(hx:tr[i]?=some x)(hy:tr[j]?=some y) 
 (hS:∀ p∈oQ ops j,S p) (hbad:ni x y=true\/mG x y=true):S i:=by
 simp only[ax,Zc]at hok;obtain⟨m,e1,e2⟩:=tJ hok.2 j y hy;have e3:=e2 i x (by simpa using hx) (by simpa using hij);rcases e3 with e3|⟨e3,e4⟩
 ·refine v9 (S:=S) (pr:=oQ ops) hcl (ops.toList.map pc) [] ?_ ?_ j (ZC.1 e1).1 i ?_ hS
  ·intro k ds hk;simp only[List.getElem?_map,ZA]at hk;obtain⟨o,ho,rfl⟩:=hk;rw[ZX]at ho;simp[oQ,ho]
  ·intro j hj;simp at hj
  ·rw[Zm,e1];exact e3
 ·rcases hbad with h|h
  ·rw[e3]at h;cases h
  ·rw[e4]at h;cases h
theorem CX (hrun:GP P cx.n ops ops.toList g0 xs gm)(hok:ax ops (xs.map fun x=>(x.1,x.2.map keyOf))=true)(hQ:∀ a' w',d6 cx gm a' w'->Q .normal a' w'):
 ∀ (fuel:Nat) (listed:Array Bool) (a:Act) (w:World),listed.size=ops.size->((Zo ops.size).filter fun i=> !mN listed i).length<=fuel->
  (∀ k,mN listed k=true->∀ p∈oQ ops k,mN listed p=true)->
  d6 cx (aU g0 (sel (fun i=>(xs.getD i ([],[])).2) (mN listed) ops.size)) a w->wpAny P .any ops Q fuel listed a w:=by
 obtain⟨hlen,hgm,hat⟩:=GP.at hrun;have hlen':xs.length=ops.size:=by simpa using hlen
 let bP:Nat->List W:=fun i=>(xs.getD i ([],[])).2
 have hall:gm=aU g0 (sel bP (fun _=>true) ops.size):=by
  have:=sQ xs xs.length (Ze _);rw[List.take_length]at this;rw[hgm,this,hlen'];unfold sel;rw[WI.2 (fun _ _=>rfl)]
 have hex:∀ j,j<ops.size->∃ o t,ops[j]?=some o/\xs[j]?=some (t,bP j)/\yN P cx.n ops o (aU g0 (sel bP (fun i=>decide (i<j)) ops.size)) t (bP j)/\nD (aU g0 (sel bP (fun _=>true) j)) (bP j):=by
  intro j hj;have ho:ops.toList[j]?=some ops[j]:=by simp[hj]
  obtain⟨t,ws,e1,e2,e4⟩:=hat j _ ho;have hw:bP j=ws:=by simp[bP,Zm,e1]
  refine⟨ops[j],t,by simp[hj],by rw[hw];exact e1,?_⟩;rw[hw];have e3:=sQ xs j (by omega);unfold sel;rw[uv (by omega)];rw[e3]at e2 e4;refine⟨e2,?_⟩;rw[WI.2 (fun _ _=>rfl)];exact e4
 have full:∀ (listed:Array Bool) (a:Act) (w:World),(∀ j,j<ops.size->mN listed j=true)->d6 cx (aU g0 (sel bP (mN listed) ops.size)) a w->Q .normal a w:=by
  intro listed a w hl hS;refine hQ a w ?_;rw[hall];have:sel bP (mN listed) ops.size=sel bP (fun _=>true) ops.size:=by
   unfold sel
   congr 1
   exact XI (fun i hi=>hl i (Yf.1 hi))
  rw[<-this];exact hS
 have noready:∀ (listed:Array Bool),listed.size=ops.size->Vs .any ops listed=[]->∀ j,j<ops.size->mN listed j=true:=by
  intro listed hsz hr j
  induction j using Nat.strongRecOn with
  | _ j ih=>
    intro hj;cases hl:mN listed j with
    |true=>rfl
    | false=>
      exfalso;have:j∈Vs .any ops listed:=by
       rw[mem_ready];refine⟨?_,ops[j],by simp[hj],?_⟩
       ·unfold mN at hl;simp only[YD]at hl ⊢;rw[XH (by omega)]at hl ⊢
        simpa using hl
       ·intro e he hb;have hp:e.on∈oQ ops j:=by
         simp only[oQ,hj,XH];exact tD.2 ⟨e,he,hb,rfl⟩
        have hlt:=DI hok hp;exact ih e.on hlt (by omega)
      rw[hr]at this;cases this
 intro fuel
 induction fuel with
 | zero=>
   intro listed a w hsz hf hcl hS;have hnil:(Zo ops.size).filter (fun i=> !mN listed i)=[]:=Yx (by omega);have hl:∀ j,j<ops.size->mN listed j=true:=by
    intro j hj;have:=XZ.1 hnil j (Yf.2 hj)
    simpa using this
   refine⟨?_,full listed a w hl hS⟩;rw[List.eq_nil_iff_forall_not_mem];intro j hj;obtain⟨h1,o,ho,_⟩:=mem_ready.1 hj;have hjlt:=(ZD.1 ho).1;have:=hl j hjlt;unfold mN at this;simp only[YD]at h1 this;rw[XH (by omega)]at h1 this;simp only[ZZ]at h1 this;rw[h1]at this;cases this
 | succ fuel ih=>
   intro listed a w hsz hf hcl hS;refine⟨fun hr=>full listed a w (noready listed hsz hr) hS,?_⟩;intro i hi;obtain⟨h1,o,ho,hpre⟩:=mem_ready.1 hi;have hilt:=(ZD.1 ho).1;have hni:mN listed i=false:=by
    unfold mN;simp only[YD]at h1 ⊢;rw[XH (by omega)]at h1 ⊢
    simpa using h1
   have hpi:∀ p∈oQ ops i,mN listed p=true:=by
    intro p hp;simp only[oQ,ho]at hp;obtain⟨e,he,hb,rfl⟩:=tD.1 hp;exact hpre e he hb
   obtain⟨o',t,ho',hxs,hexec,_⟩:=hex i hilt;rw[ho]at ho';cases ho';have htr:∀ k t',xs[k]?=some (t',bP k)->(xs.map fun x=>(x.1,x.2.map keyOf))[k]?=some (t',(bP k).map keyOf):=by
    intro k t' h;simp[h]
   have later:∀ k,i<k->k<ops.size->∀ l,cJ (bP k) l=true->(cJ (bP i) l=true\/l∈t)->mN listed k=false:=by
    intro k hik hk l hl hc;cases hlk:mN listed k with
    |false=>rfl
    | true=>
      exfalso;obtain⟨o2,t2,ho2,hxs2,_⟩:=hex k hk;have:=ng hok (S:=fun k=>mN listed k=true) hcl hik (htr i t hxs) (htr k t2 hxs2) (hcl k hlk) (by
       obtain⟨q,hq1,hq2⟩:=jz.1 hl;rcases hc with hc|hc
       ·obtain⟨q',hq3,hq4⟩:=jz.1 hc;refine .inl ?_;simp only[ni,YW,Z4];exact⟨q',hq3,.inr ⟨q,hq1,AX hq4 hq2⟩⟩
       ·refine .inr ?_;simp only[mG,YW];exact⟨q,hq1,l,hc,E0 hq2⟩)
      rw[hni]at this;cases this
   have hexec':yN P cx.n ops o (aU g0 (sel bP (mN listed) ops.size)) t (bP i):=by
    refine hexec.congr ?_;intro l hl;have agree:∀ k,k<ops.size->eY (bP k) l=true->mN listed k=decide (k<i):=by
     intro k hk htk;obtain⟨q,hq1,hq2⟩:=wU.1 htk;obtain⟨o2,t2,ho2,hxs2,_⟩:=hex k hk;rcases Nat.lt_trichotomy k i with c|c|c
     ·simp only[c,decide_true];refine ng hok (S:=fun k=>mN listed k=true) hcl c (htr k t2 hxs2) (htr i t hxs) hpi (.inl ?_);simp only[ni,YW,Z4];exact⟨q,hq1,.inl ⟨l,hl,hq2⟩⟩
     ·subst c;simp[hni]
     ·have:mN listed k=false:=by
       cases hlk:mN listed k with
       |false=>rfl
       | true=>
         exfalso;have:=ng hok (S:=fun k=>mN listed k=true) hcl c (htr i t hxs) (htr k t2 hxs2) (hcl k hlk) (by
          refine .inr ?_;simp only[mG,YW];exact⟨q,hq1,l,hl,hq2⟩)
         rw[hni]at this;cases this
      rw[this];simp;omega
    have plain:aU g0 (sel bP (mN listed) ops.size) l=aU g0 (sel bP (fun i_1=>decide (i_1<i)) ops.size) l:=by
     refine pd ?_;intro k hk htk;obtain⟨q,hq1,hq2⟩:=jz.1 htk;exact agree k hk (wU.2 ⟨q,hq1,E0 hq2⟩)
    cases l with
    | hd r j=>
      refine⟨plain,JA ?_ ?_ ?_ agree⟩
      ·intro k hk hlk htk k' hk' htk';obtain⟨o2,t2,ho2,hxs2,_⟩:=hex k hk;obtain⟨o3,t3,ho3,hxs3,_⟩:=hex k' (by omega);obtain⟨q,hq1,hq2⟩:=jz.1 htk;obtain⟨q',hq3,hq4⟩:=jz.1 htk';refine ng hok (S:=fun k=>mN listed k=true) hcl hk' (htr k' t3 hxs3) (htr k t2 hxs2) (hcl k hlk) (.inl ?_);simp only[ni,YW,Z4];exact⟨q',hq3,.inr ⟨q,hq1,AX hq4 hq2⟩⟩
      ·intro k hk hlk _ k' hk' _;simp at hlk ⊢;omega
      ·intro k hk ht;obtain⟨_,_,_,_,_,hgo⟩:=hex k hk;exact hgo r j ht
    |_=>exact plain
   show wpOp P ops Q i _ a w;unfold wpOp;simp only[ho];refine hexec'.sound hS ?_;intro a' w' hs';refine ih _ a' w' (by simp[hsz]) ?_ ?_ ?_
   ·have e:(Zo ops.size).filter (fun k=> !mN (listed.setIfInBounds i true) k)=((Zo ops.size).filter (fun k=> !mN listed k)).filter (fun k=>decide (k≠i)):=by
     rw[WG];refine XI ?_;intro k _;rw[qV (by omega)];by_cases hki:k=i<;>simp[hki]
    have hlt:(((Zo ops.size).filter (fun k=> !mN listed k)).filter (fun k=>decide (k≠i))).length<((Zo ops.size).filter (fun k=> !mN listed k)).length:=by
     rw[List.length_filter_lt_length_iff_exists];exact⟨i,List.mem_filter.2 ⟨Yf.2 hilt,by simp[hni]⟩,by simp⟩
    rw[e];omega
   ·intro k hk p hp;rw[qV (by omega)]at hk ⊢;rw[Z4]at hk;rcases hk with hk|hk
    ·rw[hcl k hk p hp];rfl
    ·simp at hk;subst hk;rw[hpi p hp];rfl
   ·have e:aU (aU g0 (sel bP (mN listed) ops.size)) (bP i)=aU g0 (sel bP (mN (listed.setIfInBounds i true)) ops.size):=by
     funext l
     cases ht:cJ (bP i) l with
     | true=>
       symm
       refine JB hilt ?_ ht ?_
       ·rw[qV (by omega)];simp
       ·intro k hik hk htk;rw[qV (by omega),later k hik hk l htk (.inl ht)];simp;omega
     | false=>
       rw[mR ht];refine pd ?_;intro k hk htk;rw[qV (by omega)];have:k≠i:=fun e=>by rw[e,ht]at htk;cases htk
       simp[this]
    rw[<-e];exact hs'
theorem BJ {id:Nat}{a:Act}{w:World}(hm:P.follows .mixedOrders=true)(hrun:GP P cx.n ops ops.toList g0 xs gm)(hok:ax ops (xs.map fun x=>(x.1,x.2.map keyOf))=true) 
 (hQ:∀ a' w',d6 cx gm a' w'->Q .normal a' w') (hS:∀ a w,d6 cx g0 a w->d6 cx g0 a {w with drawn:=w.drawn+1}) (hs:d6 cx g0 a w):(Vt id ops true).wp P Q a w:=by
 refine wp_region_any hm ?_;refine CX hrun hok hQ ops.size _ a _ (by simp) ?_ ?_ ?_;exact Nat.le_trans (List.length_filter_le _ _) (by simp)
 ·intro k hk;exfalso;unfold mN at hk;simp only[YD,Array.getElem?_replicate]at hk;split at hk<;>simp at hk
 ·have:sel (fun i=>(xs.getD i ([],[])).2) (mN (YT ops.size false)) ops.size=[]:=by
   unfold sel;have:(Zo ops.size).filter (mN (YT ops.size false))=[]:=by
    rw[XZ];intro k hk;have hk:=Yf.1 hk;simp[mN,hk]
   rw[this];rfl
  rw[this];exact hS a w hs
end
end Go.V
namespace Go.V
def I2:List W->Nat->Option R
 |[],_=>none
 | .reg d x::ws,d'=>if d.beq d' then some x else I2 ws d'
 |_::ws,d'=>I2 ws d'
def DK:List W->Nat->Nat->Option Hv
 |[],_,_=>none
 | .leaf r j x::ws,r',j'=>if r.beq r'&&j.beq j' then some x else DK ws r' j'
 |_::ws,r',j'=>DK ws r' j'
def qU (g:Gm)(ov:List W):List Nat->VS
 |[]=>[]
 | d::ds=>match I2 ov d with
   |some x=>.reg d x::qU g ov ds
   | none=>match g (.reg d)with
     |some (.r x)=>.reg d x::qU g ov ds
     |_=>qU g ov ds
def m8 (g:Gm)(ov:List W)(r:Nat):Nat->Nat->List Hv
 |_,0=>[]
 | j,m+1=>match DK ov r j with
   |some h=>h::m8 g ov r (j+1) m
   | none=>match g (.leaf r j)with
     |some (.h h)=>h::m8 g ov r (j+1) m
     |_=>⟨0,0,none,.gone⟩::m8 g ov r (j+1) m
def sB (g:Gm)(ov:List W):List Nat->VS
 |[]=>[]
 | r::rs=>match g (.meta_ r)with
   |some (.m k box)=>.root r box (m8 g ov r 0 k)::sB g ov rs
   |_=>sB g ov rs
def yo (σ:VS)(regs roots:List Nat)(ov:List W):VS:=qU (get σ) ov regs++sB (get σ) ov roots
def mD (g whole:Gm)(r j:Nat)(p:Hv->Hv->Prop):Prop:=
 match g (.leaf r j)with
 | some (.h h')=>match whole (.leaf r j)with
   |some (.h h)=>p h' h
   |_=>False
 |_=>False
def qF (whole:Gm):List Cu->Prop
 |[]=>True
 | .pt r _::cs=>(match whole (.meta_ r)with
   |some (.m _ true)=>True
   |_=>False)/\qF whole cs
 | .rp _ _::cs=>qF whole cs
def PE (g whole:Gm):A->A->Prop
 | .vw r j v' lo n,x=>match x with
   | .vw r2 j2 v lo2 n2=>(ZL r r2&&ZL j j2)=true/\lo=lo2/\n=n2/\mD g whole r j fun h' h=>h'.ver=v'/\h.ver=v
   |_=>False
 | .pn r j v' iv' p,x=>match x with
   | .pn r2 j2 v iv p2=>(ZL r r2&&ZL j j2)=true/\p=p2/\mD g whole r j fun h' h=>h'.ver=v'/\h.ver=v/\h'.iv=iv'/\h.iv=iv
   |_=>False
 | .vn r j v' iv' p lo n,x=>match x with
   | .vn r2 j2 v iv p2 lo2 n2=>(ZL r r2&&ZL j j2)=true/\p=p2/\lo=lo2/\n=n2/\mD g whole r j fun h' h=>h'.ver=v'/\h.ver=v/\h'.iv=iv'/\h.iv=iv
   |_=>False
 | .pt r j,x=>x=.pt r j/\match whole (.meta_ r)with
   |some (.m _ true)=>True
   |_=>False
 | .v y,x=>x=.v y
 | .nl,x=>x=.nl
 | .ro sz es,x=>x=.ro sz es
 | .rp rec j,x=>x=.rp rec j
 | .fn f caps,x=>x=.fn f caps/\qF whole caps
 | .mv r j v',x=>match x with
   | .mv r2 j2 v=>(ZL r r2&&ZL j j2)=true/\mD g whole r j fun h' h=>h'.ver=v'/\h.ver=v
   |_=>False
 | .st _ _ _ _ _,_=>False
 | .it es vs,x=>x=.it es vs
 | .un,x=>x=.un
def HO (g whole:Gm):List A->List A->Prop
 |[],[]=>True
 |y::ys,x::xs=>PE g whole y x/\HO g whole ys xs
 |_,_=>False
mutual
def so (g whole:Gm):R->R->Prop
 | .one y,x=>match x with
   | .one x=>PE g whole y x
   |_=>False
 | .agg ys,x=>match x with
   | .agg xs=>HO g whole ys xs
   |_=>False
 | .tup rs,x=>match x with
   | .tup qs=>yc g whole rs qs
   |_=>False
def yc (g whole:Gm):List R->List R->Prop
 | [],xs=>match xs with
   |[]=>True
   |_=>False
 | r::rs,xs=>match xs with
   |q::qs=>so g whole r q/\yc g whole rs qs
   |_=>False
end
def kg (g:Gm)(r:Nat):Nat->List Hv->Prop
 |_,[]=>True
 | j,h::hs=>(match g (.leaf r j)with
   | some (.h h')=>h'.c=h.c/\match h.org with
     |none=>True
     |some i=>h'.org=some i
   |_=>False)/\kg g r (j+1) hs
def j9 (g whole:Gm):VS->Prop
 |[]=>True
 | .reg d x::τ=>(match g (.reg d)with
   |some (.r y)=>so g whole y x
   |_=>False)/\j9 g whole τ
 | .root r box hs::τ=>(match g (.meta_ r)with
   |some (.m k b)=>k=hs.length/\b=box
   |_=>False)/\kg g r 0 hs/\j9 g whole τ
 | .leaf _ _ _::_=>False
 | .gap _ _ _::_=>False
def Iw (g:Gm):List Nat->Prop
 |[]=>True
 | r::rs=>(match g (.meta_ r)with
   |some (.m _ true)=>True
   |_=>False)/\Iw g rs
def SU (an:List Nat)(σ τ:VS):Prop:=j9 (get σ) (get τ) τ/\Iw (get τ) an
theorem yp {g:Gm}:∀ {an:List Nat},Iw g an->∀ r∈an,∃ k,g (.meta_ r)=some (.m k true)
 |[],_,r,h=>by cases h
 | a::an,h,r,hr=>by
   rcases Zl.1 hr with rfl|hr
   ·obtain⟨h,_⟩:=h;split at h
    ·rename_i k e;exact⟨k,e⟩
    ·exact h.elim
   ·exact yp h.2 r hr
section
variable {P: Program} {cx: Cx}
theorem j9.regs {g whole:Gm}:∀ {τ:VS},j9 g whole τ->∀ d x,get τ (.reg d)=some x->∃ r y,x=.r r/\g (.reg d)=some (.r y)/\so g whole y r
 |[],_,d,x,h=>by simp[get]at h
 | .reg d' y::τ,hs,d,x,h=>by
   obtain⟨h1,h3⟩:=hs;simp only[get,W.app]at h;split at h
   ·rename_i e;cases e;cases h;split at h1
    ·rename_i y' e';exact⟨_,_,rfl,e',h1⟩
    ·exact h1.elim
   ·exact j9.regs h3 d x h
 | .root r box hs::τ,hsub,d,x,h=>by
   simp only[get,W.app]at h;exact j9.regs hsub.2.2 d x h
 | .leaf _ _ _::_,hs,_,_,_=>hs.elim
 | .gap _ _ _::_,hs,_,_,_=>hs.elim
theorem j9.metas {g whole:Gm}:∀ {τ:VS},j9 g whole τ->∀ r x,get τ (.meta_ r)=some x->(∃ k box,x=.m k box)/\g (.meta_ r)=some x
 |[],_,r,x,h=>by simp[get]at h
 | .reg d' y::τ,hs,r,x,h=>by
   simp only[get,W.app]at h;rw[VU (by simp)]at h;exact j9.metas hs.2 r x h
 | .root r' box hs::τ,hsub,r,x,h=>by
   obtain⟨h1,h2,h3⟩:=hsub;simp only[get,W.app]at h;split at h
   ·rename_i e;subst e;cases h;split at h1
    ·rename_i k b e';obtain⟨rfl,rfl⟩:=h1;exact⟨⟨_,_,rfl⟩,e'⟩
    ·exact h1.elim
   ·exact j9.metas h3 r x h
 | .leaf _ _ _::_,hs,_,_,_=>hs.elim
 | .gap _ _ _::_,hs,_,_,_=>hs.elim
theorem kg.at {g:Gm}{r:Nat}:∀ {hs:List Hv} {j i:Nat} {x:Hv},kg g r j hs->hs[i]?=some x->∃ h',g (.leaf r (j+i))=some (.h h')/\h'.c=x.c/\(∀ o,x.org=some o->h'.org=some o)
 |[],_,_,_,_,h=>by simp at h
 | y::hs,j,i,x,hle,h=>by
   obtain⟨h1,h2⟩:=hle;cases i with
   | zero=>
     simp at h;subst h;split at h1
     ·rename_i h' e;refine⟨h',e,h1.1,fun o ho=>?_⟩;have:=h1.2;rw[ho]at this;exact this
     ·exact h1.elim
   | succ i=>
     simp at h;obtain⟨h',e,e2⟩:=kg.at h2 h;exact⟨h',by rw[<-e];congr 2;omega,e2⟩
theorem j9.leaves {g whole:Gm}:∀ {τ:VS},j9 g whole τ->∀ r j x,get τ (.leaf r j)=some x->∃ h h' k box,x=.h h/\g (.leaf r j)=some (.h h')/\(h'.c=h.c/\∀ o,h.org=some o->h'.org=some o)/\get τ (.meta_ r)=some (.m k box)/\j<k
 |[],_,r,j,x,h=>by simp[get]at h
 | .reg d' y::τ,hs,r,j,x,h=>by
   simp only[get,W.app]at h ⊢;rw[VU (by simp)]at h;rw[VU (by simp)];exact j9.leaves hs.2 r j x h
 | .root r' box hs::τ,hsub,r,j,x,h=>by
   simp only[get,W.app]at h ⊢;split at h
   ·rename_i e;subst e;rw[VT rfl];simp only[ZA]at h;obtain⟨y,e1,rfl⟩:=h;obtain⟨h',e2,e3⟩:=kg.at hsub.2.1 e1;rw[ZS]at e2;exact⟨y,h',_,_,rfl,e2,e3,rfl,(ZC.1 e1).1⟩
   ·rename_i e;rw[VU e];exact j9.leaves hsub.2.2 r j x h
 | .leaf _ _ _::_,hs,_,_,_,_=>hs.elim
 | .gap _ _ _::_,hs,_,_,_,_=>hs.elim
theorem SU.sim {an:List Nat}(ha:∀ r x,cx.aloc r=some x->r∈an){σ τ:VS}(h:SU an σ τ){a:Act}{w:World}(hS:d6 cx (get σ) a w):d6 cx (get τ) a w:=by
 obtain⟨G,hS⟩:=hS;obtain⟨h,hk⟩:=h
 open Classical in
 let G':Gh:={G with loc:=fun r=>if∃ k,get τ (.meta_ r)=some (.m k true)then G.loc r else none}
 have pair:∀ r j (p:Hv->Hv->Prop),mD (get σ) (get τ) r j p->∀ h0,gl (get σ) r j=some h0->∃ h1,gl (get τ) r j=some h1/\p h0 h1/\h1.c=h0.c:=by
  intro r j p hs h0 e;rw[au]at e;unfold mD at hs;rw[e]at hs;simp only at hs;split at hs
  ·rename_i h1 e1;obtain⟨y,h',_,_,q1,q2,q3,_⟩:=j9.leaves h r j _ e1;cases q1;rw[e]at q2;cases q2;exact⟨h1,au.2 e1,hs,q3.1.symm⟩
  ·exact hs.elim
 have beq:∀ {r r2 j j2:Nat},(ZL r r2&&ZL j j2)=true->r=r2/\j=j2:=by
  intro r r2 j j2 e;simp only[Zc]at e;exact⟨Z5 e.1,Z5 e.2⟩
 have hA:∀ y x v,PE (get σ) (get τ) y x->gW (gl (get σ)) G w y v->gW (gl (get τ)) G' w x v:=by
  intro y x v hc hx;cases y with
  | pt r j=>
    obtain⟨rfl,hc⟩:=hc;obtain⟨b,off,e1,e2⟩:=hx;refine⟨b,off,?_,e2⟩;split at hc
    ·rename_i k e;simp only[G'];rw[VT ⟨k,e⟩];exact e1
    ·exact hc.elim
  |st _ _ _ _ _=>exact hc.elim
  | mv r j v'=>
    cases x with
    | mv r2 j2 ver=>
      obtain⟨e,hp⟩:=hc;obtain⟨rfl,rfl⟩:=beq e;obtain⟨h0,e1,e2,e3⟩:=hx;obtain⟨h1,f1,⟨f2,f3⟩,f4⟩:=pair r j _ hp h0 e1;exact⟨h1,f1,by omega,fun _ kb es qc=>e3 f2 kb es (by rw[<-f4];exact qc)⟩
    |_=>exact hc.elim
  | vw r j v' lo n=>
    cases x with
    | vw r2 j2 ver lo2 n2=>
      obtain⟨e,rfl,rfl,hp⟩:=hc;obtain⟨rfl,rfl⟩:=beq e;obtain⟨h0,e1,e2,e3⟩:=hx;obtain⟨h1,f1,⟨f2,f3⟩,f4⟩:=pair r j _ hp h0 e1;exact⟨h1,f1,by omega,fun _ sz es qc=>e3 f2 sz es (by rw[<-f4];exact qc)⟩
    |_=>exact hc.elim
  | pn r j v' iv' p=>
    cases x with
    | pn r2 j2 ver iv p2=>
      obtain⟨e,rfl,hp⟩:=hc;obtain⟨rfl,rfl⟩:=beq e;obtain⟨h0,e1,e2,e3,e4,e5⟩:=hx;obtain⟨h1,f1,⟨f2,f3,f5,f6⟩,f4⟩:=pair r j _ hp h0 e1;exact⟨h1,f1,by omega,by omega,e4,fun _ l qc=>e5 (by simp[vV,f2,f5]) l (by rw[<-f4];exact qc)⟩
    |_=>exact hc.elim
  | vn r j v' iv' p lo n=>
    cases x with
    | vn r2 j2 ver iv p2 lo2 n2=>
      obtain⟨e,rfl,rfl,rfl,hp⟩:=hc;obtain⟨rfl,rfl⟩:=beq e;obtain⟨h0,e1,e2,e3,e4,e5⟩:=hx;obtain⟨h1,f1,⟨f2,f3,f5,f6⟩,f4⟩:=pair r j _ hp h0 e1;exact⟨h1,f1,by omega,by omega,e4,fun _ l rec o sz es qc=>e5 (by simp[gP,f2,f5]) l rec o sz es (by rw[<-f4];exact qc)⟩
    |_=>exact hc.elim
  |v y=>have hc:x=_:=hc;subst hc;exact hx
  |nl=>have hc:x=_:=hc;subst hc;exact hx
  |ro sz es=>have hc:x=_:=hc;subst hc;exact hx
  |rp rec j=>have hc:x=_:=hc;subst hc;exact hx
  |un=>have hc:x=_:=hc;subst hc;trivial
  |it es vs=>have hc:x=_:=hc;subst hc;exact hx
  | fn f caps=>
    obtain⟨rfl,hc⟩:=hc;obtain⟨ps,e,hx⟩:=hx;refine⟨ps,e,?_⟩;have key:∀ (caps:List Cu) (ps:List Value),qF (get τ) caps->dM G w caps ps->dM G' w caps ps:=by
     intro caps
     induction caps with
     |nil=>intro ps _ h;exact h
     | cons c cs ih=>
       intro ps hk hx;obtain⟨v,vs',e,h1,h2⟩:=hx;cases c with
       | pt r j=>
         obtain⟨k1,k2⟩:=hk;refine⟨v,vs',e,?_,ih _ k2 h2⟩;obtain⟨b,off,e1,e2⟩:=h1;refine⟨b,off,?_,e2⟩;split at k1
         ·rename_i k e;simp only[G'];rw[VT ⟨k,e⟩];exact e1
         ·exact k1.elim
       |rp rec j=>exact⟨v,vs',e,h1,ih _ hk h2⟩
    exact key caps ps hc hx
 have hAs:∀ ys xs vs,HO (get σ) (get τ) ys xs->bS (gl (get σ)) G w ys vs->bS (gl (get τ)) G' w xs vs:=by
  intro ys
  induction ys with
  | nil=>intro xs vs hc hx;cases xs with
    |nil=>exact hx
    |cons _ _=>exact hc.elim
  | cons y ys ih=>
    intro xs vs hc hx;cases xs with
    |nil=>exact hc.elim
    | cons x xs=>
      obtain⟨v,vs',e,h1,h2⟩:=hx;exact⟨v,vs',e,hA y x v hc.1 h1,ih xs vs' hc.2 h2⟩
 have hR:∀ y x v,so (get σ) (get τ) y x->cM (gl (get σ)) G w y v->cM (gl (get τ)) G' w x v:=by
  intro y
  induction y using R.rec (motive_2:=fun ys=>∀ xs vs,yc (get σ) (get τ) ys xs->iI (gl (get σ)) G w ys vs->iI (gl (get τ)) G' w xs vs)with
  | one y=>
    intro x v hc hx;cases x with
    |one x=>simp only[cM,so]at*;exact hA y x v hc hx
    |agg _=>simp[so]at hc
    |tup _=>simp[so]at hc
  | agg ys=>
    intro x v hc hx;cases x with
    |agg xs=>simp only[cM,so]at*;obtain⟨vs,e,hx⟩:=hx;exact⟨vs,e,hAs ys xs vs hc hx⟩
    |one _=>simp[so]at hc
    |tup _=>simp[so]at hc
  | tup ys ih=>
    intro x v hc hx;cases x with
    |tup xs=>simp only[cM,so]at*;obtain⟨vs,e,hx⟩:=hx;exact⟨vs,e,ih xs vs hc hx⟩
    |one _=>simp[so]at hc
    |agg _=>simp[so]at hc
  | nil=>
    rename_i xs vs hc hx;cases xs with
    |nil=>exact hx
    |cons _ _=>simp[yc]at hc
  | cons r rs ih1 ih2=>
    rename_i xs vs hc hx;cases xs with
    |nil=>simp[yc]at hc
    | cons q qs=>
      simp only[iI,yc]at*;obtain⟨v,vs',e,h1,h2⟩:=hx;exact⟨v,vs',e,ih1 q v hc.1 h1,ih2 qs vs' hc.2 h2⟩
 refine⟨G',hS.defers,hS.tm,?_,?_,?_,?_,?_,hS.lt,hS.frame,hS.frow,?_,?_,hS.afr,?_,?_,hS.roX⟩
 ·intro d x hx;obtain⟨r,y,rfl,he,hc⟩:=j9.regs h d x hx;obtain⟨e1,r',e2,e3⟩:=hS.reg d _ he;cases e2;exact⟨e1,r,rfl,hR y r _ hc e3⟩
 ·intro r k hk;obtain⟨b,off,cur,ty,f1,f2⟩:=hS.boxes r k (j9.metas h r _ hk).2;exact⟨b,off,cur,ty,by simp only[G'];rw[VT ⟨k,hk⟩];exact f1,f2⟩
 ·intro r j x hx;obtain⟨y,h',k,box,rfl,q2,q3,q4,q5⟩:=j9.leaves h r j x hx;obtain⟨h0,k0,box0,e1,e2,e3,e4⟩:=hS.leaf r j _ q2;cases e1;refine⟨y,k,box,rfl,q4,q5,?_⟩;unfold dN at e4 ⊢;rw[q3.1]at e4;exact e4
 ·intro r x hx;exact(j9.metas h r x hx).1
 ·intro r b hb;simp only[G']at hb;split at hb
  ·rename_i e;exact e
  ·cases hb
 ·intro r j h0 e i hi;obtain⟨y,h',k,box,e1,q2,q3,q4,q5⟩:=j9.leaves h r j _ (au.1 e);cases e1;exact hS.anc r j h' (au.2 q2) i (q3.2 i hi)
 ·intro r x hx;have:=yp hk r (ha r x hx);simp only[G'];obtain⟨k,hk2⟩:=this;rw[VT ⟨k,hk2⟩];obtain⟨g1,g2⟩:=hS.aloc r x hx;have:=(j9.metas h r _ hk2).2;rw[this]at g2;cases g2;exact⟨g1,hk2⟩
 ·intro r1 r2 k1 k2 b o1 o2 hne h1 h2 q1 q2;simp only[G']at q1 q2;rw[VT ⟨k1,h1⟩]at q1;rw[VT ⟨k2,h2⟩]at q2;exact hS.sep r1 r2 k1 k2 b o1 o2 hne (j9.metas h r1 _ h1).2 (j9.metas h r2 _ h2).2 q1 q2
 ·intro r b off hx ha2;simp only[G']at hx;split at hx
  ·exact hS.newb r b off hx ha2
  ·cases hx
theorem d6.drawn {g:Gm}{a:Act}{w:World}(h:d6 cx g a w)(k:Nat):d6 cx g a {w with drawn:=k}:=by
 obtain⟨G,hS⟩:=h
 let w':World:={w with drawn:=k}
 have st:Step g G w g G w':=⟨fun r j h hh=>⟨h,hh,.inl ⟨rfl,rfl,fun _ _ _ _=>rfl⟩⟩,fun b hb=>⟨hb,rfl⟩,fun b hb=>⟨hb,rfl⟩,fun r x h=>h⟩;refine⟨G,hS.defers,hS.tm,?_,hS.boxes,?_,hS.metas,hS.noloc,hS.lt,⟨hS.frame.os,hS.frame.tape,hS.frame.output,hS.frame.size,hS.frame.block⟩,hS.frow,hS.anc,hS.aloc,fun r b off e=>(hS.afr r b off e).keep rfl,hS.sep,hS.newb,hS.roX⟩
 ·intro d x hx;obtain⟨e1,r,e2,e3⟩:=hS.reg d x hx;exact⟨e1,r,e2,cM.step hS st _ _ e3⟩
 ·intro r j x hx;obtain⟨h,k',box,e1,e2,e3,e4⟩:=hS.leaf r j x hx;refine⟨h,k',box,e1,e2,e3,?_⟩;unfold dN at e4 ⊢;split at e4
  ·exact⟨bM.keep (w':=w') _ _ _ e4.1 (fun _ _=>rfl),e4.2⟩
  ·obtain⟨S,h1,h2⟩:=e4;exact⟨S,bM.keep (w':=w') _ _ _ h1 (fun _ _=>rfl),h2⟩
  ·trivial
def K1 (fz:List (Nat×List Nat))(id:Nat)(σ:VS):VS:=
 match lk fz id with
 |some _=>σ
 |none=>σ
open Classical in
theorem Ba {fz:List (Nat×List Nat)}(hz:fz≠[]->∀ b,cx.ro b){id:Nat}{σ:VS}{a:Act}{w:World}(h:d6 cx (get σ) a w):d6 cx (get (K1 fz id σ)) a w:=by
 unfold K1;split<;>exact h
def Mh (O:CF)(fz:List (Nat×List Nat))(id:Nat)(σ:VS)(k:VS->Prop):Prop:=
 match lk fz id with
 |some _=>k σ
 |none=>k σ
theorem BP {fz:List (Nat×List Nat)}{id:Nat}{a:Act}{w:World}{σ:VS}{k:VS->Prop}(h:Mh aj fz id σ k)(hS:d6 cx (get σ) a w):∃ σ',k σ'/\d6 cx (get σ') a w:=by
 unfold Mh at h;split at h
 ·exact⟨σ,h,hS⟩
 ·exact⟨σ,h,hS⟩
end
end Go.V
namespace Go.V
section
variable (T: xz) (O: CF) (ct: Ev) (n: Nat) (an: List Nat) (fz: List (Nat × List Nat))
def DF:List Oper->Option (Nat×Nat×Nat)
 | [o1,o2]=>match o1.op with
   | .next (.tmp it) false=>match o2.op with
     | .extract (.tmp d) 0=>match o1.dst,o1.guard,o2.dst,o2.guard with
       | some d1,none,some d2,none=>match ZL d d1 with
         |true=>some (it,d1,d2)
         |false=>none
       |_,_,_,_=>none
     |_=>none
   |_=>none
 |_=>none
def JX (it d1 d2:Nat)(draw:Bool)(σ:VS)(K:VS->Prop):Prop:=
 match draw with
 |true=>False
 | false=>match get σ (.reg it)with
   | some (.r (.one (.it es vs)))=>(sO it σ&&(WJ d1 n&&(WJ d2 n&&(!Nat.beq d1 it&& !Nat.beq d2 it))))=true/\
      (∀ k:Int,O.pr (fun _=>k∈m9 es/\vs.length<es.length)->K (.reg d2 (.k true):: .reg d1 (.one .un):: .reg it (.one (.it es (k::vs)))::σ))/\
      (O.pr (fun _=>∀ k∈m9 es,k∈vs)->K (.reg d2 (.k false):: .reg d1 (.one .un)::σ))
   |_=>False
def Cl (id:Nat)(ops:Array Oper)(draw:Bool)(Q:VS->Prop)(σ:VS):Prop:=
 yK T O ct n ops ops.toList σ [] fun σ' acc=>match draw with
  |true=>O.pr (fun _=>ax ops acc.reverse=true)/\Mh O fz id (K1 fz id σ') Q
  |false=>Mh O fz id (K1 fz id σ') Q
def nA:Code->(Ex->VS->Prop)->VS->Prop
 | .skip,Q,σ=>Q .normal σ
 | .region id ops draw,Q,σ=>match DF ops.toList with
   |some (it,d1,d2)=>JX O n it d1 d2 draw σ (fun σ'=>Q .normal σ')
   | none=>match lk T.alL id with
     |none=>Cl T O ct n fz id ops draw (Q .normal) σ
     |some _=>Cl T O ct n fz id ops draw (Q .normal) σ\/Cl T O ⟨ct.rd,ct.mu,fun _=>none,ct.nw,ct.tk⟩ n fz id ops draw (Q .normal) σ
 | .seq x y,Q,σ=>nA x (fun e σ'=>match e with
    | .normal=>nA y Q σ'
    | .exit i=>Q (.exit i) σ'
    | .ret=>Q .ret σ') σ
 | .cond c x y,Q,σ=>(zh c .ret).wpU (get σ) [] fun _ b=>Ho b (fun _=>nA x Q σ) (fun _=>nA y Q σ)
 | .block id x,Q,σ=>nA x (fun e σ'=>match e with
    | .normal=>Q .normal σ'
    | .exit i=>match ZL i id with
      |true=>Q .normal σ'
      |false=>Q (.exit i) σ'
    | .ret=>Q .ret σ') σ
 | .loop x,Q,σ=>∃ (regs roots:List Nat) (α:Type) (ov:α->List W) (rel:α->Prop) (μ:α->Nat),(∃ s0,rel s0/\SU an σ (yo σ regs roots (ov s0)))/\
    ∀ s,rel s->nA x (fun e σ'=>match e with
     | .normal=>∃ s',rel s'/\μ s'<μ s/\SU an σ' (yo σ regs roots (ov s'))
     | .exit i=>Q (.exit i) σ'
     | .ret=>Q .ret σ') (yo σ regs roots (ov s))
 | .exit id,Q,σ=>Q (.exit id) σ
 | .ret,Q,σ=>Q .ret σ
 | .scope x,Q,σ=>nA x Q σ
 |_,_,_=>False
def HW {α:Type}(O:CF)(ti:TI)(k:DV->List (Nat×Nat)->Rd α)(as:List A):Rd α:=
 jv O ti.slots as fun lts srcs=>if ti.agg then k (.agg (lts.map (·.1))) srcs else match lts with
  |[(l,_)]=>k (.one l) srcs
  |_=>.fail
def Jk {α:Type}(t:TypeId)(rv:ResultVar)(k:DV->List (Nat×Nat)->Rd α):Rd α:=
 match lk T.tyL t with
 |none=>.fail
 | some ti=>match rv with
   | .tmp x=>AG x fun r=>match r with
     | .one a=>if ti.agg then .fail else HW O ti k [a]
     | .agg as=>if ti.agg then HW O ti k as else .fail
     | .tup _=>.fail
   | .cell x t'=>if t'==t then AG x fun r=>match r with
     | .one (.pt r j)=>gQ O r j ti.zero.length (HW O ti k)
     |_=>.fail
     else .fail
def zN {α:Type}:List TypeId->List ResultVar->(List DV->List (Nat×Nat)->Rd α)->Rd α
 |[],[],k=>k [] []
 |t::ts,rv::rvs,k=>Jk T O t rv fun d src=>zN ts rvs fun ds srcs=>k (d::ds) (src++srcs)
 |_,_,_=>.fail
def yJ (ts:List TypeId)(rvs:List ResultVar)(σ:VS)(res:List DV):Prop:=
 (zN T O ts rvs fun ds srcs=>if bC srcs then .req (O.pr fun _=>ds=res) (.ret ())else .fail).wpU (get σ) [] fun _ _=>True
end
section
variable {P: Program} {T: xz} {cx: Cx} {g: Gm}
theorem Dt {α:Type}{r j:Nat}{h0:Hv}{k' k:A->Rd α}{ls:List Loc}{x:α}(hk:∀ a ls,(k' a).Runs g ls x->(k a).Runs g ls x)(h:(v7 r j h0 k').Runs g ls x):(v7 r j h0 k).Runs g ls x:=by
 unfold v7 at h ⊢;split at h
 ·split at h
  ·refine dm (fun v ls h=>?_) h;split at h
   ·split at h
    ·split at h
     ·rename_i hb;rw[VT hb];exact hk _ _ h
     ·rename_i hb;rw[VU hb];exact hk _ _ h
    ·exact hk _ _ h
   ·exact hk _ _ h
  ·exact hk _ _ h
 ·exact hk _ _ h
 ·exact hk _ _ h
theorem nN {α:Type}{r:Nat}:∀ {m j:Nat} {k' k:List A->Rd α} {ls:List Loc} {x:α},(∀ as ls,(k' as).Runs g ls x->(k as).Runs g ls x)->(dY r j m k').Runs g ls x->(dY r j m k).Runs g ls x
 |0,j,k',k,ls,x,hk,h=>hk _ _ h
 |m+1,j,k',k,ls,x,hk,h=>dm (fun v ls h=>Dt (fun a ls h=>nN (fun as ls h=>hk _ _ h) h) h) h
theorem Gy (hT:bJ P T){α:Type}{t:TypeId}{rv:ResultVar}{k' k:DV->List (Nat×Nat)->Rd α}{ls:List Loc}{x:α}(hk:∀ d s ls,(k' d s).Runs g ls x->(k d s).Runs g ls x)(h:(Jk T aj t rv k').Runs g ls x):(Jj P t rv k).Runs g ls x:=by
 revert h
 unfold Jk Jj;rcases hT.ty t with e|⟨ti,e,e2⟩
 ·simp only[e];exact fun h=>h.elim
 ·simp only[e,e2];have hf:∀ (as:List A) (ls:List Loc),(HW aj ti k' as).Runs g ls x->(cU ti.slots as fun lts srcs=>if ti.agg then k (.agg (lts.map (·.1))) srcs else match lts with
   |[(l,_)]=>k (.one l) srcs
   |_=>.fail).Runs g ls x:=by
   intro as ls h;unfold HW at h;rw[jx]at h;refine iE ?_ h;intro l src ls h;by_cases ha:ti.agg=true
   ·rw[VT ha]at h ⊢;exact hk _ _ _ h
   ·rw[VU ha]at h ⊢;split at h
    ·exact hk _ _ _ h
    ·exact h.elim
  intro h;cases rv with
  | tmp y=>
    refine wy ?_ h;intro r ls h;cases r with
    | one a=>
      simp only at h ⊢;split at h
      ·exact h.elim
      ·rename_i hb;rw[VU hb];exact hf _ _ h
    | agg as=>
      simp only at h ⊢;split at h
      ·rename_i hb;rw[VT hb];exact hf _ _ h
      ·exact h.elim
    |tup rs=>exact h
  | cell y t'=>
    refine cO (fun ls h=>?_) h;refine wy ?_ h;intro r ls h;cases r with
    | one a=>cases a with
      | pt r j=>
        simp only[kR]at h;exact nN (fun as ls h=>hf as ls h) h
      |_=>exact h
    |agg as=>exact h
    |tup rs=>exact h
theorem nm (hT:bJ P T){α:Type}:∀ {ts:List TypeId} {rvs:List ResultVar} {k' k:List DV->List (Nat×Nat)->Rd α} {ls:List Loc} {x:α},(∀ d s ls,(k' d s).Runs g ls x->(k d s).Runs g ls x)->(zN T aj ts rvs k').Runs g ls x->(wz P ts rvs k).Runs g ls x
 |[],[],k',k,ls,x,hk,h=>hk _ _ _ h
 |[],_::_,k',k,ls,x,hk,h=>h
 |_::_,[],k',k,ls,x,hk,h=>h
 |t::ts,rv::rvs,k',k,ls,x,hk,h=>Gy hT (fun d s ls h=>nm hT (fun d s ls h=>hk _ _ _ h) h) h
theorem BC {ops:List Oper}{it d1 d2:Nat}(h:DF ops=some (it,d1,d2)):∃ o1 o2,ops=[o1,o2]/\o1.op=.next (.tmp it) false/\o1.dst=some d1/\o1.guard=none/\o2.op=.extract (.tmp d1) 0/\o2.dst=some d2/\o2.guard=none:=by
 unfold DF at h;split at h
 ·rename_i o1 o2;split at h
  ·rename_i it' e1;split at h
   ·rename_i d e2;split at h
    ·rename_i e3 e4 e5 e6;split at h
     ·rename_i hb;cases h;cases Z5 hb;exact⟨o1,o2,rfl,e1,e3,e4,e2,e5,e6⟩
     ·cases h
    ·cases h
   ·cases h
  ·cases h
 ·cases h
theorem o4 {fz:List (Nat×List Nat)}(hz:fz≠[]->∀ b,cx.ro b)(hT:bJ P T){ct:Ev}(hct:uV P ct)(hm:P.follows .mixedOrders=true){n:Nat}(hn:n=cx.n){id:Nat}{ops:Array Oper}{draw:Bool}{Q:Ex->VS->Prop}{σ:VS}{a:Act}{w:World}(h:Cl T aj ct n fz id ops draw (Q .normal) σ)(hS:d6 cx (get σ) a w):
 (Vt id ops draw).wp P (fun e a' w'=>∃ ex σ',e=KR ex/\Q ex σ'/\d6 cx (get σ') a' w') a w:=by
 unfold Cl at h;obtain⟨xs,σ',h1,h2⟩:=pp hT hct _ _ _ _ h;subst hn;cases draw with
 | false=>exact wp_region_list (h1.text hS (fun a' w' hs=>by
    obtain⟨σ2,k1,k2⟩:=BP h2 (Ba hz hs);exact⟨.normal,σ2,rfl,k1,k2⟩))
 | true=>
   obtain⟨h2,h3⟩:=h2;refine BJ hm h1 ?_ (fun a' w' hs=>by
    obtain⟨σ2,k1,k2⟩:=BP h3 (Ba hz hs);exact⟨.normal,σ2,rfl,k1,k2⟩) (fun a w h=>h.drawn _) hS
   have h2:ax ops _=true:=h2
   simpa using h2
theorem db {fz:List (Nat×List Nat)}(hz:fz≠[]->∀ b,cx.ro b)(hT:bJ P T){ct:Ev}(hct:uV P ct)(hm:P.follows .mixedOrders=true){n:Nat}(hn:n=cx.n){an:List Nat}(ha:∀ r x,cx.aloc r=some x->r∈an):∀ (c:Code) (Q:Ex->VS->Prop) (σ:VS) (a:Act) (w:World),nA T aj ct n an fz c Q σ->d6 cx (get σ) a w->
 c.wp P (fun e a' w'=>∃ ex σ',e=KR ex/\Q ex σ'/\d6 cx (get σ') a' w') a w
 | .skip,Q,σ,a,w,h,hS=>wp_skip ⟨.normal,σ,rfl,h,hS⟩
 | .region id ops draw,Q,σ,a,w,h,hS=>by
   unfold nA at h;split at h
   ·rename_i it d1 d2 hq;unfold JX at h;split at h
    ·exact h.elim
    split at h
    case h_2=>exact h.elim
    rename_i es vs hit;obtain⟨hb,hT',hF'⟩:=h;simp only[Zc,Yv]at hb;obtain⟨b1,b2,b3,b4,b5⟩:=hb;obtain⟨o1,o2,e0,p1,p2,p3,p4,p5,p6⟩:=BC hq;subst hn;refine wp_region_list ?_;rw[e0];refine DG hS hit b1 (by simpa[Vu]using b2) (by simpa[Vu]using b3) (WL b4) (WL b5) p1 p2 p3 p4 p5 p6 ?_ ?_
    ·intro k hk hl a' w' hs;exact⟨.normal,_,rfl,hT' k ⟨hk,hl⟩,hs⟩
    ·intro hall a' w' hs;exact⟨.normal,_,rfl,hF' hall,hs⟩
   split at h
   ·exact o4 hz hT hct hm hn h hS
   ·rcases h with h|h;exact o4 hz hT hct hm hn h hS;exact o4 hz (ct:=⟨ct.rd,ct.mu,fun _=>none,ct.nw,ct.tk⟩) hT ⟨hct.1,hct.2.1,fun _ _ e=>(by cases e),hct.2.2.2.1,hct.2.2.2.2⟩ hm hn h hS
 | .seq x y,Q,σ,a,w,h,hS=>by
   refine wp_seq (YP ?_ (db hz hT hct hm hn ha x _ σ a w h hS));rintro e a' w' ⟨ex,σ',rfl,hq,hs⟩;cases ex with
   |normal=>exact db hz hT hct hm hn ha y Q σ' a' w' hq hs
   |exit i=>exact⟨.exit i,σ',rfl,hq,hs⟩
   |ret=>exact⟨.ret,σ',rfl,hq,hs⟩
 | .cond c x y,Q,σ,a,w,h,hS=>by
   obtain⟨G,hG⟩:=id hS;obtain⟨ls,b,t,h1,h2,_⟩:=Rd.wpU_runs h;obtain⟨b',ls',e,h3⟩:=qM hG h1;refine wp_cond e ?_;simp only[Rd.Runs]at h3;obtain⟨_,rfl⟩:=h3;cases b with
   |true=>exact db hz hT hct hm hn ha x Q σ a w h2 hS
   |false=>exact db hz hT hct hm hn ha y Q σ a w h2 hS
 | .block id x,Q,σ,a,w,h,hS=>by
   refine wp_block (YP ?_ (db hz hT hct hm hn ha x _ σ a w h hS));rintro e a' w' ⟨ex,σ',rfl,hq,hs⟩;cases ex with
   |normal=>exact⟨.normal,σ',rfl,hq,hs⟩
   | exit i=>
     simp only[KR,Exit.inBlock];simp only at hq;split at hq
     ·rename_i e;rw[VT (Z5 e)];exact⟨.normal,σ',rfl,hq,hs⟩
     ·rename_i e;rw[VU (WL e)];exact⟨.exit i,σ',rfl,hq,hs⟩
   |ret=>exact⟨.ret,σ',rfl,hq,hs⟩
 | .loop x,Q,σ,a,w,h,hS=>by
   obtain⟨regs,roots,α,ov,rel,μ,⟨s0,hr0,hle0⟩,hround⟩:=h;refine wp_loop_ghost (fun s a w=>rel s/\d6 cx (get (yo σ regs roots (ov s))) a w) μ s0 ⟨hr0,hle0.sim ha hS⟩ ?_;rintro s a w ⟨hr,hs⟩;refine YP ?_ (db hz hT hct hm hn ha x _ _ a w (hround s hr) hs);rintro e a' w' ⟨ex,σ',rfl,hq,hs'⟩;cases ex with
   | normal=>
     obtain⟨s',k1,k2,k3⟩:=hq;exact⟨s',⟨k1,k3.sim ha hs'⟩,k2⟩
   |exit i=>exact⟨.exit i,σ',rfl,hq,hs'⟩
   |ret=>exact⟨.ret,σ',rfl,hq,hs'⟩
 | .exit id,Q,σ,a,w,h,hS=>wp_exit ⟨.exit id,σ,rfl,h,hS⟩
 | .ret,Q,σ,a,w,h,hS=>wp_ret ⟨.ret,σ,rfl,h,hS⟩
 | .scope x,Q,σ,a,w,h,hS=>by
   refine wp_scope_straight (YP ?_ (db hz hT hct hm hn ha x Q σ a w h hS));rintro e a' w' ⟨ex,σ',rfl,hq,hs⟩;cases ex with
   |normal=>exact⟨.normal,σ',rfl,hq,hs⟩
   |exit i=>exact⟨.exit i,σ',rfl,hq,hs⟩
   |ret=>exact⟨.ret,σ',rfl,hq,hs⟩
 | .rangeFunc _ _ _ _,Q,σ,a,w,h,hS=>h.elim
 | .label _,Q,σ,a,w,h,hS=>h.elim
 | .goto _,Q,σ,a,w,h,hS=>h.elim
 | .refuse _,Q,σ,a,w,h,hS=>h.elim
def KV (T:xz)(O:CF)(ts:List TypeId)(rvs:List ResultVar)(res:List DV):Ex->VS->Prop
 | .normal,σ=>yJ T O ts rvs σ res
 | .ret,σ=>yJ T O ts rvs σ res
 | .exit _,_=>False
theorem ah {α:Type}{rel:α->Prop}{μ:α->Nat}{m:Nat}{le:α->Prop}(s:α)(h3:le s)(h1:rel s)(h2:μ s<m):∃ s,rel s/\μ s<m/\le s:=⟨s,h1,h2,h3⟩
end
end Go.V
namespace Go.V
def pV:L->L->Bool
 | .v (.int k _),.v (.int k' _)=>k==k'
 | .v (.bool _),.v (.bool _)=>true
 | .v (.string _),.v (.string _)=>true
 | .s sz _,.s sz' _=>sz==sz'
 |_,_=>false
def lX:aT->aT->Bool
 |[],[]=>true
 |z::zs,x::xs=>pV z x&&lX zs xs
 |_,_=>false
def Wf (z:aT)(es:af):Prop:=∀ e∈es,lX z e=true
theorem tp:∀ {z e:aT},lX z e=true->e.length=z.length
 |[],[],_=>rfl
 |[],_::_,h=>by cases h
 |_::_,[],h=>by cases h
 | z::zs,x::xs,h=>by
   simp only[lX,Zc]at h;simp[tp h.2]
theorem yg:∀ (o:Nat) {z e:aT},lX z e=true->lX (z.drop o) (e.drop o)=true
 |0,z,e,h=>h
 |o+1,[],[],h=>by simp[lX]
 |o+1,[],_::_,h=>by cases h
 |o+1,_::_,[],h=>by cases h
 | o+1,z::zs,x::xs,h=>by
   simp only[lX,Zc]at h;exact yg o h.2
theorem yh:∀ (m:Nat) {z e:aT},lX z e=true->lX (z.take m) (e.take m)=true
 |0,z,e,h=>by simp[lX]
 |m+1,[],[],h=>by simp[lX]
 |m+1,[],_::_,h=>by cases h
 |m+1,_::_,[],h=>by cases h
 | m+1,z::zs,x::xs,h=>by
   simp only[lX,Zc]at h;simp only[List.take_succ_cons,lX,Zc];exact⟨h.1,yh m h.2⟩
theorem Wf.at {z:aT}{es:af}(h:Wf z es){n:Nat}(hn:n<es.length):lX z (es.getD n [])=true:=by
 rw[Zm,Zu hn];exact h _ (List.getElem_mem hn)
theorem Wf.nil {z:aT}:Wf z []:=fun _ h=>by cases h
theorem Wf.cons {z e:aT}{es:af}(h:lX z e=true)(hs:Wf z es):Wf z (e::es):=by
 intro x hx;rcases Zl.1 hx with rfl|hx;exact h;exact hs x hx
theorem Wf.append {z:aT}{es fs:af}(h:Wf z es)(hs:Wf z fs):Wf z (es++fs):=by
 intro x hx;rcases List.mem_append.1 hx with hx|hx;exact h x hx;exact hs x hx
theorem Wf.take {z:aT}{es:af}(h:Wf z es)(n:Nat):Wf z (es.take n):=fun x hx=>h x (List.mem_of_mem_take hx)
theorem Wf.drop {z:aT}{es:af}(h:Wf z es)(n:Nat):Wf z (es.drop n):=fun x hx=>h x (List.mem_of_mem_drop hx)
theorem vO {es:af}{i:Int}{t:aT}:∀ {z:aT} {j:Nat} {rest:aT},lX z rest=true->(es.getD i.toNat []).drop j=rest++t->k8 aj es i j z=rest
 |[],j,[],_,_=>rfl
 |[],_,_::_,h,_=>by cases h
 |_::_,_,[],h,_=>by cases h
 | z::zs,j,x::xs,h,e=>by
   simp only[lX,Zc]at h;have hx:(es.getD i.toNat []).getD j .g=x:=by
    have:(es.getD i.toNat [])[j]?=some x:=by
     have:=congrArg (fun l:aT=>l[0]?) e
     simpa[Zv]using this
    rw[Zm,this];rfl
   have hr:(es.getD i.toNat []).drop (j+1)=xs++t:=by
    rw[<-Yi,e];rfl
   have ih:=vO h.2 hr;cases z with
   | v z=>cases z with
     | int k n=>cases x with
       | v x=>cases x with
         | int k' n'=>
           have:k=k':=by simpa[pV]using h.1
           subst this;simp only[k8,ih]
           congr 3
           exact(show ag es i j=_ by simp only[ag,hx,Ly])
         |_=>simp[pV]at h
       |_=>simp[pV]at h
     | bool b=>cases x with
       | v x=>cases x with
         | bool b'=>
           simp only[k8,ih]
           congr 3
           exact(show pX es i j=_ by simp only[pX,hx,lfB])
         |_=>simp[pV]at h
       |_=>simp[pV]at h
     | string b=>cases x with
       | v x=>cases x with
         | string b'=>
           simp only[k8,ih]
           congr 3
           exact(show Nj es i j=_ by simp only[Nj,hx,lfT])
         |_=>simp[pV]at h
       |_=>simp[pV]at h
     |_=>simp[pV]at h
   | s sz es0=>cases x with
     | s sz' es'=>
       have:sz=sz':=by simpa[pV]using h.1
       subst this;simp only[k8,ih]
       congr 2
       exact(show aw es i j=_ by simp only[aw,hx,Nv])
     |_=>simp[pV]at h
   |g=>simp[pV]at h
   |m _ _=>simp[pV]at h
theorem Rt {z:aT}{es:af}{i:Int}(hr:Wf z es)(h0:0<=i)(h1:i<es.length):0<=i/\i<es.length/\es.getD i.toNat []=k8 aj es i 0 z:=
 ⟨h0,h1,(vO (t:=[]) (hr.at (by omega)) (by simp)).symm⟩
theorem kP {sz:Nat}{es:af}{n j:Nat}:bQ (.s sz es) [(n,j)]=(es[n]?).map (·,j):=rfl
theorem zJ {sz:Nat}{es:af}{n j:Nat}:zI (.s sz es) [(n,j)]=ag es n j:=by
 simp only[zI,SJ,SK,ag,pX,Nj,Gc,kP,ZG,Zm];cases es[n]? with
 |none=>rfl
 | some e=>
   simp only[Yk,ZZ];cases e[j]? with
   |none=>rfl
   | some x=>cases x with
     |v x=>cases x<;>rfl
     |_=>rfl
theorem Q4 {sz:Nat}{es:af}{n j:Nat}:SJ (.s sz es) [(n,j)]=pX es n j:=by
 simp only[zI,SJ,SK,ag,pX,Nj,Gc,kP,ZG,Zm];cases es[n]? with
 |none=>rfl
 | some e=>
   simp only[Yk,ZZ];cases e[j]? with
   |none=>rfl
   | some x=>cases x with
     |v x=>cases x<;>rfl
     |_=>rfl
theorem Rc {sz:Nat}{es:af}{n j:Nat}:SK (.s sz es) [(n,j)]=Nj es n j:=by
 simp only[zI,SJ,SK,ag,pX,Nj,Gc,kP,ZG,Zm];cases es[n]? with
 |none=>rfl
 | some e=>
   simp only[Yk,ZZ];cases e[j]? with
   |none=>rfl
   | some x=>cases x with
     |v x=>cases x<;>rfl
     |_=>rfl
theorem Rb {sz:Nat}{es:af}{n j:Nat}:kh (.s sz es) [(n,j)]=aw es n j:=by
 simp only[kh,aw,fC,kP,ZG,Zm];cases es[n]? with
 |none=>rfl
 | some e=>
   simp only[Yk,ZZ];cases e[j]? with
   |none=>rfl
   |some x=>cases x<;>rfl
theorem Mo:aj.pi=zI:=rfl
theorem Mn:aj.pb=SJ:=rfl
theorem Mq:aj.pt=SK:=rfl
theorem Mp:aj.ps=kh:=rfl
theorem Mk:aj.gi=ag:=rfl
theorem Mj:aj.gb=pX:=rfl
theorem Mm:aj.gt=Nj:=rfl
theorem Ml:aj.gs=aw:=rfl
theorem A6 {sz:Nat}{es:af}{n o:Nat}:∀ {z:aT} {j:Nat},js aj (.s sz es) [(n,o)] j z=k8 aj es n (o+j) z
 |[],j=>rfl
 | z::zs,j=>by
   have ih:js aj (.s sz es) [(n,o)] (j+1) zs=k8 aj es n (o+j+1) zs:=A6;cases z with
   |v x=>cases x<;>simp only[js,k8,uB,Mo,Mn,Mq,Mk,Mj,Mm,zJ,Q4,Rc,ih]
   |s a b=>simp only[js,k8,uB,Mp,Ml,Rb,ih]
   |g=>simp only[js,k8,ih]
   |m _ _=>simp only[js,k8,ih]
theorem dU {z z0:aT}{sz:Nat}{es:af}{n o:Nat}(hr:Wf z0 es)(hn:n<es.length)(hz:(z0.drop o).take z.length=z)(ho:o+z.length<=z0.length):
 ∃ rec o',bQ (.s sz es) [(n,o)]=some (rec,o')/\o'+z.length<=rec.length/\(rec.drop o').take z.length=js aj (.s sz es) [(n,o)] 0 z:=by
 have hf:=hr.at hn;have e1:es[n]?=some (es.getD n []):=by rw[Zm,Zu hn];rfl
 refine⟨es.getD n [],o,by rw[kP,e1];rfl,?_,?_⟩
 ·rw[tp hf];exact ho
 ·have hf2:lX z (((es.getD n []).drop o).take z.length)=true:=by
   have:=yh z.length (yg o hf);rw[hz]at this;exact this
  rw[A6]
  symm
  exact vO (t:=((es.getD n []).drop o).drop z.length) hf2 (by rw[Yr,ZG];exact(ZR _ _).symm)
end Go.V
namespace Go.V
inductive Ty where
 |int (k:IntKind)
 |bool
 |str
 |sl (fs:List Ty)
mutual
def dq:Ty->L->Prop
 | .int k,.v (.int k' n)=>k'=k/\k.has n
 | .bool,.v (.bool _)=>True
 | .str,.v (.string s)=>s.size<=maxLen
 | .sl fs,.s sz es=>sz=fs.length/\es.length<=maxLen/\∀ e∈es,bR fs e
 |_,_=>False
def bR:List Ty->aT->Prop
 |[],[]=>True
 |t::ts,l::ls=>dq t l/\bR ts ls
 |_,_=>False
end
def shape (P:Program):Nat->TypeId->Option (List Ty)
 |0,_=>none
 | k+1,t=>
   let r:Option (List Ty):=match P.underlying t with
    |some (.int kd)=>some [.int kd]
    |some .bool=>some [.bool]
    |some .string=>some [.str]
    | some (.slice e)=>match shape P k e with
      |some (f::fs)=>if P.cellsOf e=(f::fs).length then some [.sl (f::fs)]else none
      |_=>none
    | some (.struct fs)=>(fs.toList.foldl (fun acc fd=>match acc,shape P k fd.type with
       |some acc,some ts=>if fd.offset=acc.length/\P.cellsOf fd.type=ts.length then some (acc++ts)else none
       |_,_=>none) (some []))
    |_=>none
   match r with
   |some ts=>if P.cellsOf t=ts.length then some ts else none
   |none=>none
theorem qJ:∀ {ts us:List Ty} {r s:aT},bR ts r->bR us s->bR (ts++us) (r++s)
 |[],us,[],s,_,h2=>h2
 |[],_,_::_,_,h,_=>by simp[bR]at h
 |_::_,_,[],_,h,_=>by simp[bR]at h
 | t::ts,us,l::ls,s,h,h2=>by
   simp only[bR,List.cons_append]at h ⊢;exact⟨h.1,qJ h.2 h2⟩
section
variable {P: Program} {w: World}
theorem FI {sz:Nat}{c:aT->Prop}:∀ (len:Nat) (l:List Value),l.length=len*sz->(∀ i,i<len->∃ rec S,ai w rec ((l.drop (i*sz)).take sz) S/\c rec)->
 ∃ es S,es.length=len/\bF w sz es l S/\∀ e∈es,c e
 |0,l,hl,_=>⟨[],[],rfl,by simp only[bF];exact⟨Yx (by simpa using hl),trivial⟩,fun e h=>by cases h⟩
 | len+1,l,hl,h=>by
   obtain⟨rec,S,h1,h2⟩:=h 0 (by omega);have hsz:sz<=l.length:=by rw[hl,Zq];omega
   obtain⟨es,T,k1,k2,k3⟩:=FI (sz:=sz) (c:=c) len (l.drop sz) (by rw[Zn,hl,Zq];omega) (fun i hi=>by
    obtain⟨rec,S,h1,h2⟩:=h (i+1) (by omega);refine⟨rec,S,?_,h2⟩;rw[Yi];rw[show sz+i*sz=(i+1)*sz from by rw[Zq];omega];exact h1)
   refine⟨rec::es,S++T,by simp[k1],?_,?_⟩
   ·simp only[bF];refine⟨l.take sz,l.drop sz,S,T,(ZR _ _).symm,by simp;omega,by simpa using h1,k2,rfl⟩
   ·intro e he;rcases Zl.1 he with rfl|he;exact h2;exact k3 e he
theorem vG {a:Addr}{n:Nat}{cs:List Value}(h:w.cells? 0 a n=some cs):cs.length=n/\∀ k,k<n->w.cell? (a.add k)=cs[k]?:=by
 unfold World.cells? at h;rw[VT (ZB _)]at h;have hl:=mapM_some_length h;refine⟨by simpa using hl,fun k hk=>mapM_some_get h k k (by simp[hk])⟩
theorem add_add' (a:Addr)(ha:a.spot=none)(i k:Nat):(a.add i).add k=⟨a.block,a.off+i+k,none⟩:=by
 obtain⟨b,o,s⟩:=a;simp only at ha;subst ha;unfold Addr.add;split<;>split<;>simp_all<;>omega
theorem pW {α:Type}{f:Option (List Ty)->α->Option (List Ty)}(hf:∀ x,f none x=none):∀ (l:List α),l.foldl f none=none
 |[]=>rfl
 |x::l=>by rw[Y3,hf];exact pW hf l
theorem sH {H:Type}{enc:TypeId×Value->H}:∀ (k:Nat) (t:TypeId) (ts:List Ty),shape P k t=some ts->∀ (fuel:Nat) (cs:List Value) (x:DataW H×List MemPlace),Xs enc P w 0 (fun _=>true) true fuel t cs=some x->
 ∃ rec S,ai w rec cs S/\bR ts rec
 |0,t,ts,hs,_,_,_,_=>by simp[shape]at hs
 |k+1,t,ts,hs,0,_,_,h=>by simp[Xs]at h
 | k+1,t,ts,hs,fuel+1,cs,x,h=>by
   simp only[shape]at hs;have hcell:P.cellsOf t=ts.length:=by
    split at hs
    ·rename_i r _;split at hs
     ·rename_i hc;cases hs;exact hc
     ·cases hs
    ·cases hs
   unfold Xs at h;cases hu:P.underlying t with
   |none=>simp[hu]at hs
   | some d=>
     simp only[hu]at hs h;cases d with
     | int kd=>
       have:ts=[.int kd]:=by
        simp only at hs;split at hs
        ·cases hs;rfl
        ·cases hs
       subst this
       match cs,h with
       | [.int k' n],h=>
         simp only at h;split at h
         ·rename_i hc;obtain⟨rfl,hwf⟩:=hc;simp only[Lit.wf,Zc,VR]at hwf;exact⟨[.v (.int k' n)],[],by simp[ai,bM,scal],by simp only[bR,dq];exact⟨⟨trivial,hwf⟩,trivial⟩⟩
         ·cases h
     | bool=>
       have:ts=[.bool]:=by
        simp only at hs;split at hs
        ·cases hs;rfl
        ·cases hs
       subst this
       match cs,h with
       |[.bool b],h=>exact⟨[.v (.bool b)],[],by simp[ai,bM,scal],by simp[bR,dq]⟩
     | string=>
       have:ts=[.str]:=by
        simp only at hs;split at hs
        ·cases hs;rfl
        ·cases hs
       subst this
       match cs,h with
       | [.string b],h=>
         simp only at h;split at h
         ·rename_i hc;exact⟨[.v (.string b)],[],by simp[ai,bM,scal],by simp only[bR,dq];exact⟨hc,trivial⟩⟩
         ·cases h
     | slice e=>
       simp only at hs;cases he:shape P k e with
       |none=>simp[he]at hs
       | some fs=>
         cases fs with
         |nil=>simp[he]at hs
         | cons f fs=>
           simp only[he]at hs;split at hs
           ·rename_i r hr;split at hr
            ·rename_i hce;cases hr;split at hs
             ·cases hs
              match cs,h with
              | [.slice none 0 0],h=>
                refine⟨[.s (f::fs).length []],[],?_,?_⟩
                ·simp only[ai,bM];exact⟨_,[],[],[],rfl,⟨none,0,0,rfl,rfl,Ze _,ZB _,.inl ⟨rfl,rfl⟩⟩,⟨rfl,rfl⟩,rfl⟩
                ·simp only[bR,dq];exact⟨⟨trivial,ZB _,fun e h=>by cases h⟩,trivial⟩
              | [.slice (some a) len cap],h=>
                simp only at h;split at h
                ·rename_i hb;obtain⟨_,hlc,hcm⟩:=hb;simp only[if_true,ZA,X1]at h;obtain⟨elems,hel,rest,hrest,_⟩:=h;have hsz:P.cellsOf e=(f::fs).length:=hce;have hszp:0<P.cellsOf e:=by rw[hsz];simp
                 have hat:∀ i,i<cap->∃ ci y,w.cells? 0 (a.add (i*P.cellsOf e)) (P.cellsOf e)=some ci/\Xs enc P w 0 (fun _=>true) true fuel e ci=some y:=by
                  intro i hi;rcases Yb i len with c|c
                  ·have:=mapM_some_get hel i i (Xm c);have hl:=mapM_some_length hel;simp only[XW]at hl;rw[Zu (by omega)]at this;simp only[X1]at this;obtain⟨ci,h1,h2⟩:=this;exact⟨ci,_,h1,h2⟩
                  ·have:=mapM_some_get hrest (i-len) (i-len) (Xm (by omega));have hl:=mapM_some_length hrest;simp only[XW]at hl;rw[Zu (by omega)]at this;simp only[X1]at this;obtain⟨ci,h1,h2⟩:=this;rw[show len+(i-len)=i from by omega]at h1;exact⟨ci,_,h1,h2⟩
                 by_cases hc0:cap=0
                 ·subst hc0;have:len=0:=by omega
                  subst this;refine⟨[.s (f::fs).length []],[],?_,?_⟩
                  ·simp only[ai,bM];exact⟨_,[],[],[],rfl,⟨some a,0,0,rfl,rfl,Ze _,ZB _,.inl ⟨rfl,rfl⟩⟩,⟨rfl,rfl⟩,rfl⟩
                  ·simp only[bR,dq];exact⟨⟨trivial,ZB _,fun e h=>by cases h⟩,trivial⟩
                 ·obtain⟨c0,y0,z1,z2⟩:=hat 0 (by omega);have z3:=(vG z1).2 0 hszp;have hz4:∃ v,w.cell? a=some v:=by
                   rw[Nat.zero_mul]at z3;have:(a.add 0).add 0=a:=rfl;rw[this]at z3;rw[z3];have:=(vG z1).1;exact⟨_,Zu (by omega)⟩
                  obtain⟨v0,hv0⟩:=hz4;have hblk:∃ cur ty fz,w.heap[a.block]?=some (.cells cur ty fz)/\a.spot=none:=by
                   unfold Ys at hv0;split at hv0
                   ·rename_i cur ty fz hh;refine⟨cur,ty,fz,hh,?_⟩;cases hsp:a.spot with
                    |none=>rfl
                    |some s=>simp[hsp]at hv0
                   ·cases hv0
                  obtain⟨cur,ty,fz,hh,hsp⟩:=hblk;have hcellat:∀ j,w.cell? ⟨a.block,j,none⟩=cur[j]?:=by
                   intro j;unfold Ys;simp[hh]
                  have hel2:∀ i,i<cap->∃ ci y,ci.length=P.cellsOf e/\(∀ kk,kk<P.cellsOf e->cur[a.off+i*P.cellsOf e+kk]?=ci[kk]?)/\Xs enc P w 0 (fun _=>true) true fuel e ci=some y:=by
                   intro i hi;obtain⟨ci,y,h1,h2⟩:=hat i hi;obtain⟨h3,h4⟩:=vG h1;refine⟨ci,y,h3,fun kk hkk=>?_,h2⟩;rw[<-h4 kk hkk,add_add' a hsp,hcellat]
                  have hfit:a.off+cap*P.cellsOf e<=cur.size:=by
                   obtain⟨ci,y,h1,h2,_⟩:=hel2 (cap-1) (by omega);have:=h2 (P.cellsOf e-1) (by omega);rw[Zu (by omega)]at this;have hlt:=(ZD.1 this).1;have:cap*P.cellsOf e=(cap-1)*P.cellsOf e+P.cellsOf e:=by
                    rw[<-Wu];congr 1;omega
                   omega
                  have hle:len*P.cellsOf e<=cap*P.cellsOf e:=ZM _ hlc;obtain⟨es,S,k1,k2,k3⟩:=FI (w:=w) (sz:=P.cellsOf e) (c:=bR (f::fs)) len ((cur.toList.drop a.off).take (len*P.cellsOf e)) (by simp only[List.length_take,Zn,Array.length_toList];omega) (fun i hi=>by
                   obtain⟨ci,y,h1,h2,h3⟩:=hel2 i (by omega);obtain⟨rec,S,r1,r2⟩:=sH k e (f::fs) he fuel ci y h3;refine⟨rec,S,?_,r2⟩;have:(((cur.toList.drop a.off).take (len*P.cellsOf e)).drop (i*P.cellsOf e)).take (P.cellsOf e)=ci:=by
                    apply List.ext_getElem?;intro kk;have hii:(i+1)*P.cellsOf e<=len*P.cellsOf e:=ZM _ hi;rw[Wu]at hii;simp only[List.getElem?_take,Zv];by_cases ck:kk<P.cellsOf e
                    ·rw[VT ck,VT (by omega), <-h2 kk ck,ZX];congr 1;omega
                    ·rw[VU ck,Yc (by omega)]
                   rw[this];exact r1)
                  refine⟨[.s (f::fs).length es],a.block::S,?_,?_⟩
                  ·simp only[ai,bM];refine⟨_,[],a.block::S,[],rfl,⟨some a,len,cap,rfl,k1.symm,hlc,hcm,.inr ⟨a.block,a.off,cur,ty,fz,S,?_,hh,by rw[<-hsz];exact hfit,by rw[<-hsz];exact k2,rfl⟩⟩,⟨rfl,rfl⟩,by simp⟩;obtain⟨b,o,s⟩:=a;simp only at hsp;subst hsp;rfl
                  ·simp only[bR,dq];exact⟨⟨trivial,by omega,k3⟩,trivial⟩
                ·cases h
             ·cases hs
            ·cases hr
           ·cases hs
     | struct fs=>
       simp only at hs;generalize hfold:(fs.toList.foldl (fun acc fd=>match acc,shape P k fd.type with
        |some acc,some ts=>if fd.offset=acc.length/\P.cellsOf fd.type=ts.length then some (acc++ts)else none
        |_,_=>none) (some []))=r at hs
       cases r with
       |none=>cases hs
       | some ts0=>
         simp only at hs;by_cases hc0:P.cellsOf t=ts0.length
         case neg=>rw[VU hc0]at hs;cases hs
         rw[VT hc0]at hs;cases hs;simp only at h;split at h
         ·rename_i hcl;simp only[ZA]at h;obtain⟨xs,hxs,_⟩:=h;have key:∀ (l:List Field) (acc:List Ty) (xs:List (DataW H×List MemPlace)),l.foldl (fun acc fd=>match acc,shape P k fd.type with
           |some acc,some ts=>if fd.offset=acc.length/\P.cellsOf fd.type=ts.length then some (acc++ts)else none
           |_,_=>none) (some acc)=some ts->l.mapM (fun f=>Xs enc P w 0 (fun _=>true) true fuel f.type ((cs.drop f.offset).take (P.cellsOf f.type)))=some xs->
           ∃ tl,ts=acc++tl/\∃ rec S,ai w rec ((cs.drop acc.length).take tl.length) S/\bR tl rec:=by
           intro l
           induction l with
           |nil=>intro acc xs h _;simp only[List.foldl_nil,Ya]at h;exact⟨[],by simp[h],[],[],by simp[ai],by simp[bR]⟩
           | cons fd l ih=>
             intro acc xs h hm;rw[Y3]at h;cases hsf:shape P k fd.type with
             |none=>simp only[hsf]at h;rw[pW (fun _=>rfl)]at h;cases h
             | some us=>
               simp only[hsf]at h;by_cases hc:fd.offset=acc.length/\P.cellsOf fd.type=us.length
               ·rw[VT hc]at h;simp only[List.mapM_cons,Option.bind_eq_bind,X1]at hm;obtain⟨y,hy,ys,hys,_⟩:=hm;obtain⟨tl,e1,rec,S,r1,r2⟩:=ih (acc++us) ys h hys;obtain⟨rec0,S0,q1,q2⟩:=sH k fd.type us hsf fuel _ y hy;refine⟨us++tl,by rw[e1,List.append_assoc],rec0++rec,S0++S,?_,qJ q2 r2⟩;have e2:(cs.drop acc.length).take (us++tl).length=(cs.drop fd.offset).take (P.cellsOf fd.type)++(cs.drop (acc++us).length).take tl.length:=by
                 rw[hc.1,hc.2,Zf,Zf,List.take_add,Yi]
                rw[e2];exact q1.append r1
               ·rw[VU hc]at h;rw[pW (fun _=>rfl)]at h;cases h
          obtain⟨tl,e1,rec,S,r1,r2⟩:=key fs.toList [] xs hfold hxs;simp only[Z0]at e1;subst e1;refine⟨rec,S,?_,r2⟩;rw[hcell]at hcl
          simpa[<-hcl]using r1
         ·cases h
     |_=>simp at hs
end
end Go.V
namespace Go.V
open Go.ChangeShapes Go.WideShapes Go.ChangeAt Go.RowKit
def Ey:Bool->aT->DV
 |true,rec=>.agg rec
 |false,[l]=>.one l
 |false,rec=>.agg rec
def yQ:List (Bool×List Ty)->af->List DV
 |(b,_)::sh,r::rs=>Ey b r::yQ sh rs
 |_,_=>[]
def A1:List (Bool×List Ty)->af->Prop
 |[],[]=>True
 |(_,ts)::sh,r::rs=>bR ts r/\A1 sh rs
 |_,_=>False
def Bs (P:Program)(t:TypeId):Bool:=match P.underlying t with
 |some (.struct _)=>true
 |_=>false
def zX (P:Program)(t:TypeId):Option (Bool×List Ty):=(shape P 12 t).map (Bs P t, ·)
section
variable {P: Program} {w: World} {H: Type} {enc: TypeId × Value -> H}
theorem Jh {t:TypeId}{b:Bool}{ts:List Ty}(hs:zX P t=some (b,ts)){base:Nat}{v:Value}(hok:YX P w .any base t v){d:DataW H}{ps:List MemPlace} 
 (h:DataW.Trod enc P w 0 (fun _=>true) true t v d ps):∃ rec S,bR ts rec/\gY w (Ey b rec) v S:=by
 unfold zX at hs;cases hsh:shape P 12 t with
 |none=>simp[hsh]at hs
 | some ts'=>
   simp only[hsh,Yk,Ya,XV]at hs;obtain⟨hb,rfl⟩:=hs;obtain⟨fuel,h⟩:=h;obtain⟨rec,S,h1,h2⟩:=sH _ _ _ hsh _ _ _ h;refine⟨rec,S,h2,?_⟩;unfold Bs at hb;cases hu:P.underlying t with
   |none=>simp[shape,hu]at hsh
   | some ud=>
     have hcell:∀ (hv:v.cells= #[v]) (hbf:b=false),∃ l,rec=[l]/\gY w (Ey b rec) v S:=by
      intro hv hbf;rw[hv]at h1;have hl:=h1.length;simp only[Zj,Zk]at hl;obtain⟨l,rfl⟩:=List.length_eq_one_iff.1 hl.symm;refine⟨l,rfl,?_⟩;simp only[ai]at h1;obtain⟨v',vs',S1,S2,e,q1,⟨rfl,rfl⟩,rfl⟩:=h1;simp at e;obtain⟨rfl,_⟩:=e;rw[hbf]
      simpa[Ey,gY]using q1
     cases ud with
     | struct fs=>
       simp only[hu]at hb;subst hb;simp only[YX,hu]at hok;obtain⟨cs,rfl,_,_⟩:=hok;exact⟨cs.toList,by simp,h1⟩
     | int k=>
       simp only[YX,hu,X2,X3]at hok;split at hok<;>first|exact hok.elim|skip
       all_goals first|(obtain⟨l,rfl,h3⟩:=hcell rfl (by simpa[hu]using hb.symm);exact h3)|(rename_i hx _;cases hx)
     | bool=>
       simp only[YX,hu,X2,X3]at hok;split at hok<;>first|exact hok.elim|skip
       all_goals first|(obtain⟨l,rfl,h3⟩:=hcell rfl (by simpa[hu]using hb.symm);exact h3)|(rename_i hx _;cases hx)
     | string=>
       simp only[YX,hu,X2,X3]at hok;split at hok<;>first|exact hok.elim|skip
       all_goals first|(obtain⟨l,rfl,h3⟩:=hcell rfl (by simpa[hu]using hb.symm);exact h3)|(rename_i hx _;cases hx)
     | slice e=>
       simp only[YX,hu,X2,X3]at hok;split at hok<;>first|exact hok.elim|skip
       all_goals first|(obtain⟨l,rfl,h3⟩:=hcell rfl (by simpa[hu]using hb.symm);exact h3)|(rename_i hx _;cases hx)
     |_=>simp[shape,hu]at hsh
theorem gY.arg {d:DV}{v:Value}{S:List Nat}(h:gY w d v S):mh w d v S:=by
 cases d with
 |one l=>exact h
 |agg l=>exact h
 |_=>exact h.elim
theorem yB:∀ (ts:List TypeId) (sh:List (Bool×List Ty)) (vs:List Value) (ds:List (DataW H)) (ps:List MemPlace) (base:Nat),(ts.map (zX P))=sh.map some->
 (∀ (j:Nat) t v,ts[j]?=some t->vs[j]?=some v->YX P w .any base t v)->X4 enc P w 0 (fun _=>true) true ts vs ds ps->
 ∃ recs,A1 sh recs/\dA (fun _=>True) w (yQ sh recs) vs
 | [],[],vs,ds,ps,base,_,_,h=>by
   obtain⟨rfl,rfl,rfl⟩:=trodAll_nil h;exact⟨[],trivial,rfl⟩
 |[],_::_,_,_,_,_,h,_,_=>by simp at h
 |_::_,[],_,_,_,_,h,_,_=>by simp at h
 | t::ts,(b,us)::sh,vs,ds,ps,base,hsh,hok,h=>by
   simp only[ZT,Vo]at hsh;obtain⟨v,vs',d,ds',p,q,rfl,rfl,rfl,h1,h2⟩:=trodAll_cons h;obtain⟨rec,S,r1,r2⟩:=Jh hsh.1 (hok 0 t v rfl rfl) h1;obtain⟨recs,k1,k2⟩:=yB ts sh vs' ds' q base hsh.2 (fun j t' v' e1 e2=>hok (j+1) t' v' (by simpa using e1) (by simpa using e2)) h2;exact⟨rec::recs,⟨r1,k1⟩,v,vs',S,rfl,r2.arg,fun _ _=>trivial,k2⟩
theorem Same.below {w w':World}(h:Same (fun _=>True) w w'):Below w.heap.size w w':=⟨h.os,h.tape,h.output,h.size,fun k hk=>h.block k hk trivial⟩
theorem Same.keptBut {w w':World}(h:Same (fun _=>True) w w')(may:MemPlace->Prop):w.keptBut w' may:=by
 refine⟨h.os,h.output,fun i hi=>?_⟩;rw[h.block i hi trivial];cases w.heap[i]? with
 |none=>rfl
 | some o=>cases o with
   |cells c t fr=>exact⟨rfl,rfl,rfl,fun _ _=>rfl⟩
   |map es clock=>exact .inr ⟨rfl,rfl⟩
   |_=>rfl
theorem pG {w':World}(hl:laidOutB P=true)(hb:Below w.heap.size w w'):∀ (ts:List TypeId) (vs:List Value) (ds:List (DataW H)) (ps:List MemPlace),(ts.all fun t=>P.readableRec t&&decide (t<P.types.size))=true->
 X4 enc P w 0 (fun _=>true) true ts vs ds ps->(∀ x∈ps,x.block<w.heap.size)->X4 enc P w' 0 (fun b=>decide (b<w.heap.size)) true ts vs ds ps
 | [],vs,ds,ps,_,h,_=>by
   obtain⟨rfl,rfl,rfl⟩:=trodAll_nil h;exact trodAll_mk0
 | t::ts,vs,ds,ps,hr,h,hlt=>by
   obtain⟨v,vs',d,ds',p,q,rfl,rfl,rfl,h1,h2⟩:=trodAll_cons h;simp only[List.all_cons,Zc,VR]at hr;exact⟨p,q,Below.trod hl hr.1.1 hr.1.2 h1 hb (fun x hx=>hlt x (by simp[hx])),pG hl hb ts vs' ds' q (by simpa using hr.2) h2 (fun x hx=>hlt x (by simp[hx])),rfl⟩
theorem Gl {f:FuncId}{fn:Func}{s:ChangeSpec}{sh:List (Bool×List Ty)}{tb:TypeId}(hvars:s.vars=[])(hspec:∀ ds:List (DataW H),ds.length=fn.params.toList.length->s.fn H (ds++[])=⟨[.lit (.bool true)],ds,[]⟩) 
 (hrt:fn.resultTypes= #[tb]) (htb:P.underlying tb=some .bool) (hl:laidOutB P=true) (hread:(fn.params.toList.all fun t=>P.readableRec t&&decide (t<P.types.size))=true)
 (hsh:fn.params.toList.map (zX P)=sh.map some) (hctr:∀ recs,A1 sh recs->GM P f (yQ sh recs) [.k true])
 {base:Nat} {args:Array Value} {ds gs:List (DataW H)} {before:List MemPlace} (hval:∀ (j:Nat) t v,fn.params[j]?=some t->args[j]?=some v->YX P w .any base t v)
 (hW:DataW.Whole enc P fn.params.toList s.vars false w args.toList ds gs before):
 Calls P f args w fun e w'=>∃ v,e=.returned v/\s.post enc P fn false true false false w args v w':=by
 have hW':=hW;obtain⟨p,q,hA,hV,rfl,hfz,hnd⟩:=hW;rw[hvars]at hV;obtain⟨rfl,rfl⟩:=trodVars_none hV;obtain⟨recs,h1,h2⟩:=yB fn.params.toList sh args.toList ds p base hsh (fun j t v e1 e2=>hval j t v (by simpa using e1) (by simpa using e2)) hA;have hc:=hctr recs h1 w args.toList h2;rw[Array.toArray_toList]at hc;refine hc.mono ?_;rintro e w' ⟨v,S,rfl,hr,_,_,hsame⟩;simp only[gq,gY,bM]at hr;obtain⟨rfl,_,_⟩:=hr;have hlen:∀ (ts:List TypeId) (vs:List Value) (ds:List (DataW H)) (ps:List MemPlace),X4 enc P w 0 (fun _=>true) true ts vs ds ps->ds.length=ts.length:=by
  intro ts
  induction ts with
  |nil=>intro vs ds ps h;obtain⟨_,rfl,_⟩:=trodAll_nil h;rfl
  |cons t ts ih=>intro vs ds ps h;obtain⟨v,vs',d,ds',p,q,rfl,rfl,rfl,_,h2⟩:=trodAll_cons h;simp[ih _ _ _ h2]
 have e1:s.fn H (ds++[])=⟨[.lit (.bool true)],ds,[]⟩:=hspec ds (hlen _ _ _ _ hA);refine⟨_,rfl,ds,[],p++[],[],p,[],hW',?_,?_,?_,hsame.keptBut _,fun h=>by cases h⟩
 ·rw[e1,hrt];exact trodAll_mk1 (shut_bool htb true)
 ·rw[e1];exact pG hl hsame.below _ _ _ _ hread hA (fun x hx=>hW'.lt x (by simpa using hx))
 ·rw[e1,hvars];rfl
end
end Go.V
namespace Go.V
theorem cG {a b:Int}(h: -9223372036854775808<=a+b/\a+b<=9223372036854775807):bO .add Za a b=a+b:=YZ _ h
theorem gg {a b:Int}(h: -9223372036854775808<=a-b/\a-b<=9223372036854775807):bO .sub Za a b=a-b:=YZ _ h
theorem kO {α:Type}{es:List α}{d:α}{i:Nat}(hi:i<es.length):es.take (i+1)=es.take i++[es.getD i d]:=by
 rw[List.take_succ_eq_append_getElem hi,Zm,Zu hi];rfl
theorem eG {sz:Nat}{es:af}{n:Nat}{new:aT}(h:(es.getD n []).length=new.length):jq (.s sz es) [(n,0)] new=es.set n new:=by
 simp only[jq,j3,rowOf,List.take_zero,Z0,ZS];rw[List.drop_of_length_le (by omega),ZY]
theorem eS {sz:Nat}{es:af}{n o m:Nat}(hn:n<es.length)(hl:o+m<=(es.getD n []).length):∃ rec o',bQ (.s sz es) [(n,o)]=some (rec,o')/\o'+m<=rec.length:=by
 refine⟨es.getD n [],o,?_,hl⟩;rw[kP,Zm,Zu hn];rfl
theorem CZ {z:aT}{es:af}{i:Int}(hr:Wf z es)(h0:0<=i)(h1:i<es.length):k8 aj es i 0 z=es.getD i.toNat []:=(Rt hr h0 h1).2.2.symm
theorem Ku {a b:Int}:(cW .eql a b=true)↔a=b:=by simp[cW]
theorem Kt {a b:Int}:(cW .eql a b=false)↔a≠b:=by simp[cW]
theorem KE {a b:Int}:(cW .neq a b=true)↔a≠b:=by simp[cW]
theorem KD {a b:Int}:(cW .neq a b=false)↔a=b:=by simp[cW]
theorem KC {a b:Int}:(cW .lss a b=true)↔a<b:=by simp[cW]
theorem KB {a b:Int}:(cW .lss a b=false)↔b<=a:=by simp[cW]
theorem KA {a b:Int}:(cW .leq a b=true)↔a<=b:=by simp[cW]
theorem Kz {a b:Int}:(cW .leq a b=false)↔b<a:=by simp[cW]
theorem Ky {a b:Int}:(cW .gtr a b=true)↔b<a:=by simp[cW]
theorem Kx {a b:Int}:(cW .gtr a b=false)↔a<=b:=by simp[cW]
theorem Kw {a b:Int}:(cW .geq a b=true)↔b<=a:=by simp[cW]
theorem Kv {a b:Int}:(cW .geq a b=false)↔a<b:=by simp[cW]
theorem adQ {b:Bool}:(Hh b=true)↔b=false:=by cases b<;>simp[Hh]
theorem adP {b:Bool}:(Hh b=false)↔b=true:=by cases b<;>simp[Hh]
theorem Hj {a b:Bool}:(AB .eql a b=true)↔a=b:=by simp[AB]
theorem Hi {a b:Bool}:(AB .eql a b=false)↔a≠b:=by simp[AB]
theorem Hl {a b:Bool}:(AB .neq a b=true)↔a≠b:=by simp[AB]
theorem Hk {a b:Bool}:(AB .neq a b=false)↔a=b:=by simp[AB]
theorem az {i:Int}:adI 0 i=i.toNat:=ZS _
theorem nc {n:Nat}:(VN n:Int)=Int.ofNat n:=rfl
theorem sa {es:af}:jf es 0 es.length=es:=by simp[jf]
end Go.V
namespace Go.V
section
variable {P: Program} {cx: Cx} {G: Gh} {g: Gm} {a: Act} {w: World}
end
end Go.V
namespace Go.V
def abQ {Φ:Type}(_:Φ):MT:=fun _=>none
def noC {Φ:Type}(_:Φ):CT:=fun _ _=>none
section
variable {P: Program} {T: xz} {cx: Cx} {G: Gh} {g: Gm} {a: Act} {w: World}
theorem sJ {fn:Func}{tmps:Array Value}{w':World}{vs':List Value}{ds':List DV}{S:List Nat}(k1:(fn.results.toList.mapM (oS tmps)).run P w'=.ok vs' w')(k2:bW w' ds' vs' S):
 ∃ v,(results fn tmps).run P w'=.ok v w'/\gq w' ds' v S:=by
 have hrun:(results fn tmps).run P w'=.ok (if h:vs'.toArray.size=1 then vs'.toArray[0]else .tuple vs'.toArray) w':=by
  rw[wA,Array.mapM_eq_mapM_toList (m:=Sem)];simp only[Sem.run_bind,Sem.run_map,k1,Result.andThen_ok,Sem.run_pure]
 refine⟨_,hrun,?_⟩;have hl:∀ {ds:List DV} {vs:List Value} {S:List Nat},bW w' ds vs S->vs.length=ds.length:=by
  intro ds
  induction ds with
  |nil=>intro vs S h;simp only[bW]at h;simp[h.1]
  |cons d ds ih=>intro vs S h;simp only[bW]at h;obtain⟨v,vs',S1,S2,rfl,_,h2,_⟩:=h;simp[ih h2]
 have hlen:=hl k2;cases ds' with
 | nil=>
   have:vs'=[]:=Yx hlen;subst this;exact⟨[],by simp,k2⟩
 | cons d1 rest=>
   cases rest with
   | nil=>
     simp only[bW]at k2;obtain⟨v,vs'',S1,S2,rfl,q1,⟨rfl,rfl⟩,rfl⟩:=k2
     simpa[gq]using q1
   | cons d2 rest=>
     have:¬ vs'.toArray.size=1:=by simp at hlen;simp;omega
     rw[dif_neg this];exact⟨vs',rfl,k2⟩
theorem LK {Φ:Type}{F:Φ}:Cy P (abQ F):=by intro f mk h;cases h
theorem QY {Φ:Type}{F:Φ}:yL P (noC F):=by intro f ds pre res h;cases h
end
end Go.V
namespace Go.V
abbrev PT :=FuncId->Option PK
abbrev NT :=FuncId->Option NK
abbrev OT :=FuncId->Option OJ
def abS {Φ:Type}(_:Φ):OT:=fun _=>none
theorem LM {P:Program}{Φ:Type}{F:Φ}:CE P (abS F):=by intro f mk h;cases h
def abR {Φ:Type}(_:Φ):NT:=fun _=>none
theorem LL {P:Program}{Φ:Type}{F:Φ}:Cz P (abR F):=by intro f mk h;cases h
def abT {Φ:Type}(_:Φ):PT:=fun _=>none
theorem LN {P:Program}{Φ:Type}{F:Φ}:CH P (abT F):=by intro f mk h;cases h
def ab8 (al:Bool)(r j:Nat):Option Nat:=match al with
 |true=>some (1000000000+(r*1000+j))
 |false=>none
def E1 (al:Bool)(r:Nat):Nat->List H->List Hv
 |_,[]=>[]
 |j,.own l::hs=>⟨0,0,ab8 al r j,.own l⟩::E1 al r (j+1) hs
 |j,h::hs=>⟨0,0,some (r*1000+j),h⟩::E1 al r (j+1) hs
def eD (al:Bool):Nat->List DV->VS
 |_,[]=>[]
 |p,.mp hs::ds=>.reg p (.one (.pt p 0)):: .root p true (E1 al p 0 hs)::eD al (p+1) ds
 |p,d::ds=>.reg p (mS d)::eD al (p+1) ds
def mpL:Nat->List DV->List (Nat×List H)
 |_,[]=>[]
 |p,.mp hs::ds=>(p,hs)::mpL (p+1) ds
 |p,_::ds=>mpL (p+1) ds
def gU:Nat->List DV->List fM->Nat->Option fM
 |p,.mp _::ds,q::ps,r=>if r=p then some q else gU (p+1) ds ps r
 |_,.mp _::_,[],_=>none
 |p,_::ds,ps,r=>gU (p+1) ds ps r
 |_,[],_,_=>none
theorem Db {al:Bool}{r:Nat}:∀ {hs:List H} {j i:Nat} {h:Hv},(E1 al r j hs)[i]?=some h->∃ c,hs[i]?=some c/\h.ver=0/\h.iv=0/\h.c=c/\(∀ l,c=.own l->h.org=ab8 al r (j+i))/\((∀ l,c≠ .own l)->h.org=some (r*1000+(j+i)))
 |[],j,i,h,e=>by simp[E1]at e
 | c::hs,j,i,h,e=>by
   cases i with
   | zero=>
     cases c with
     |own l=>simp[E1]at e;subst e;exact⟨_,rfl,rfl,rfl,rfl,fun _ _=>rfl,fun k=>absurd rfl (k l)⟩
     |ro l=>simp[E1]at e;subst e;exact⟨_,rfl,rfl,rfl,rfl,(fun _ k=>by cases k),fun _=>rfl⟩
     |gone=>simp[E1]at e;subst e;exact⟨_,rfl,rfl,rfl,rfl,(fun _ k=>by cases k),fun _=>rfl⟩
   | succ i=>
     have:(E1 al r (j+1) hs)[i]?=some h:=by cases c<;>simpa[E1]using e
     obtain⟨c',q1,q2,q3,q4,q5,q6⟩:=Db this;exact⟨c',by simpa using q1,q2,q3,q4,fun l k=>by rw[q5 l k];congr 1;omega,fun k=>by rw[q6 k];congr 2;omega⟩
theorem vY {al:Bool}{r:Nat}:∀ {hs:List H} {j:Nat},(E1 al r j hs).length=hs.length
 |[],_=>rfl
 |c::hs,j=>by cases c<;>simp[E1,vY (hs:=hs)]
section
variable {P: Program} {T: xz} {w: World} {ok: Nat -> Prop}
theorem ga.length:∀ {ds:List DV} {vs:List Value} {ps:List fM},ga w ok ds vs ps->vs.length=ds.length
 |[],vs,ps,h=>by simp only[ga]at h;simp[h.1]
 | d::ds,vs,ps,h=>by
   cases d with
   |mp hs=>obtain⟨p,ps',vs',rfl,rfl,_,h⟩:=h;simp[h.length]
   |one l=>obtain⟨v,vs',S,rfl,_,_,h⟩:=h;simp[ga.length h]
   |agg l=>obtain⟨v,vs',S,rfl,_,_,h⟩:=h;simp[ga.length h]
   |ptr l=>obtain⟨v,vs',S,rfl,_,_,h⟩:=h;simp[ga.length h]
   |fn f l=>obtain⟨v,vs',S,rfl,_,_,h⟩:=h;simp[ga.length h]
theorem I6:∀ {ds:List DV} {ps:List fM} {p r:Nat} {q:fM},gU p ds ps r=some q->p<=r/\r<p+ds.length
 |[],ps,p,r,q,h=>by simp[gU]at h
 | d::ds,ps,p,r,q,h=>by
   have step:∀ ps,gU (p+1) ds ps r=some q->p<=r/\r<p+(d::ds).length:=fun ps h=>by
    have:=I6 h;simp;omega
   cases d with
   | mp hs=>
     cases ps with
     |nil=>simp[gU]at h
     | cons q' ps=>
       simp only[gU]at h;split at h
       ·simp;omega
       ·exact step _ h
   |_=>exact step ps h
theorem p8:∀ {ds:List DV} {vs:List Value} {ps:List fM} {p r:Nat} {q:fM},ga w ok ds vs ps->(gU p ds ps r=some q↔∃ k:Nat,(mpL p ds)[k]?=some (r,q.hs)/\ps[k]?=some q)
 |[],vs,ps,p,r,q,ha=>by simp[gU,mpL]
 | d::ds,vs,ps,p,r,q,ha=>by
   have mge:∀ {ds:List DV} {p k:Nat} {x:Nat×List H},(mpL p ds)[k]?=some x->p<=x.1:=by
    intro ds
    induction ds with
    |nil=>intro p k x h;simp[mpL]at h
    | cons d ds ih=>
      intro p k x h;cases d with
      | mp hs=>
        simp only[mpL]at h;cases k with
        |zero=>simp at h;subst h;exact Ze _
        |succ k=>simp at h;have:=ih h;omega
      |_=>have:=ih (p:=p+1) h;omega
   cases d with
   | mp hs=>
     obtain⟨p0,ps',vs',rfl,rfl,e,ha⟩:=ha;have ih:=p8 (p:=p+1) (r:=r) (q:=q) ha;simp only[gU,mpL]
     constructor
     ·intro h;split at h
      ·rename_i c;cases h;exact⟨0,by simp[c,e],by simp⟩
      ·obtain⟨k,h1,h2⟩:=ih.1 h;exact⟨k+1,by simpa using h1,by simpa using h2⟩
     ·rintro⟨k,h1,h2⟩;cases k with
      |zero=>simp at h1 h2;rw[VT h1.1.symm];rw[h2]
      | succ k=>
        simp at h1 h2;have:=mge h1;rw[VU (by simp only at this;omega)];exact ih.2 ⟨k,h1,h2⟩
   |one l=>obtain⟨v,vs',S,rfl,_,_,ha⟩:=ha;exact p8 (p:=p+1) ha
   |agg l=>obtain⟨v,vs',S,rfl,_,_,ha⟩:=ha;exact p8 (p:=p+1) ha
   |ptr l=>obtain⟨v,vs',S,rfl,_,_,ha⟩:=ha;exact p8 (p:=p+1) ha
   |fn f l=>obtain⟨v,vs',S,rfl,_,_,ha⟩:=ha;exact p8 (p:=p+1) ha
theorem pY {al:Bool}:∀ {ds:List DV} {vs:List Value} {ps:List fM} (p:Nat),ga w ok ds vs ps->
 (∀ r,get (eD al p ds) (.meta_ r)=(gU p ds ps r).map fun q=>.m q.hs.length true)/\
 (∀ r j,get (eD al p ds) (.leaf r j)=(gU p ds ps r).bind fun q=>((E1 al r 0 q.hs)[j]?).map .h)/\
 (∀ d x,get (eD al p ds) (.reg d)=some x->∃ i,d=p+i/\i<vs.length/\((∃ q,gU p ds ps d=some q/\x=.r (.one (.pt d 0))/\vs[i]?=some (.pointer (some ⟨q.b,q.off,none⟩)))\/(∃ dv v S,x=.r (mS dv)/\vs[i]?=some v/\mh w dv v S/\∀ b∈S,ok b)))
 | [],vs,ps,p,ha=>by
   refine⟨fun r=>rfl,fun r j=>rfl,fun d x h=>by cases h⟩
 | d::ds,vs,ps,p,ha=>by
   have other:∀ (v:Value) (vs':List Value) (S:List Nat),vs=v::vs'->mh w d v S->(∀ b∈S,ok b)->ga w ok ds vs' ps->(∀ r,gU p (d::ds) ps r=gU (p+1) ds ps r)->eD al p (d::ds)=.reg p (mS d)::eD al (p+1) ds->
    (∀ r,get (eD al p (d::ds)) (.meta_ r)=(gU p (d::ds) ps r).map fun q=>.m q.hs.length true)/\
    (∀ r j,get (eD al p (d::ds)) (.leaf r j)=(gU p (d::ds) ps r).bind fun q=>((E1 al r 0 q.hs)[j]?).map .h)/\
    (∀ d' x,get (eD al p (d::ds)) (.reg d')=some x->∃ i,d'=p+i/\i<vs.length/\((∃ q,gU p (d::ds) ps d'=some q/\x=.r (.one (.pt d' 0))/\vs[i]?=some (.pointer (some ⟨q.b,q.off,none⟩)))\/(∃ dv v S,x=.r (mS dv)/\vs[i]?=some v/\mh w dv v S/\∀ b∈S,ok b))):=by
    intro v vs' S e h1 h2 h3 h4 h5;subst e;obtain⟨i1,i2,i3⟩:=pY (al:=al) (p+1) h3;rw[h5];refine⟨fun r=>by rw[h4, <-i1];simp[get,W.app],fun r j=>by rw[h4, <-i2];simp[get,W.app],fun d' x hx=>?_⟩;simp only[get,W.app]at hx;split at hx
    ·rename_i c;cases c;cases hx;exact⟨0,rfl,by simp,.inr ⟨d,v,S,rfl,rfl,h1,h2⟩⟩
    ·obtain⟨i,e1,e2,e3⟩:=i3 d' x hx;refine⟨i+1,by omega,by simpa using e2,?_⟩;rw[h4];rcases e3 with⟨q,k1,k2,k3⟩|⟨dv,v',S',k1,k2,k3,k4⟩;exact .inl ⟨q,k1,k2,by simpa using k3⟩;exact .inr ⟨dv,v',S',k1,by simpa using k2,k3,k4⟩
   cases d with
   | mp hs=>
     obtain⟨q,ps',vs',rfl,rfl,e,ha⟩:=ha;obtain⟨i1,i2,i3⟩:=pY (al:=al) (p+1) ha;subst e;have hp:gU (p+1) ds ps' p=none:=by
      cases h:gU (p+1) ds ps' p with
      |none=>rfl
      |some q=>have:=I6 h;omega
     refine⟨fun r=>?_,fun r j=>?_,fun d' x hx=>?_⟩
     ·simp only[eD,get,W.app,gU];by_cases c:r=p
      ·subst c;simp[vY]
      ·simp[c,i1]
     ·simp only[eD,get,W.app,gU];by_cases c:r=p
      ·subst c;simp
      ·simp[c,i2]
     ·simp only[eD,get,W.app]at hx;split at hx
      ·rename_i c;cases c;cases hx;exact⟨0,rfl,by simp,.inl ⟨q,by simp[gU],rfl,rfl⟩⟩
      ·rename_i c;obtain⟨i,e1,e2,e3⟩:=i3 d' x hx;refine⟨i+1,by omega,by simpa using e2,?_⟩;have hne:d'≠p:=by omega
       rcases e3 with⟨q',k1,k2,k3⟩|⟨dv,v',S',k1,k2,k3,k4⟩;exact .inl ⟨q',by simp only[gU];rw[VU hne];exact k1,k2,by simpa using k3⟩;exact .inr ⟨dv,v',S',k1,by simpa using k2,k3,k4⟩
   |one l=>obtain⟨v,vs',S,e,h1,h2,h3⟩:=ha;exact other v vs' S e h1 h2 h3 (fun _=>rfl) rfl
   |agg l=>obtain⟨v,vs',S,e,h1,h2,h3⟩:=ha;exact other v vs' S e h1 h2 h3 (fun _=>rfl) rfl
   |ptr l=>obtain⟨v,vs',S,e,h1,h2,h3⟩:=ha;exact other v vs' S e h1 h2 h3 (fun _=>rfl) rfl
   |fn f l=>obtain⟨v,vs',S,e,h1,h2,h3⟩:=ha;exact other v vs' S e h1 h2 h3 (fun _=>rfl) rfl
open Classical in
theorem Ge {al:Bool}(n:Nat)(w:World)(ds:List DV)(vs:List Value)(ps:List fM)(h:OK w ds vs ps)(hn:ds.length<=n)(anc:Nat->Value)(hanc:∀ r q j l,gU 0 ds ps r=some q->q.hs[j]?=some (.ro l)->anc (r*1000+j)=q.val j)(hanc2:∀ r q j l,al=true->gU 0 ds ps r=some q->q.hs[j]?=some (.own l)->anc (1000000000+(r*1000+j))=q.val j):
 ∃ G,aP ⟨n,w,fun b=>¬ lN ps b/\¬ pu ps b,anc,fun r=>(gU 0 ds ps r).map fun q=>(q.b,q.off),fun r=>((gU 0 ds ps r).map fun q=>q.hs.length).getD 0,fun _=>True⟩ G (get (eD al 0 ds)) {tmps:=vs.toArray++YT (n-vs.toArray.size) undef,defers:=[]} w:=by
 have hl:=h.args.length;obtain⟨i1,i2,i3⟩:=pY (al:=al) 0 h.args;have ix:=fun {r q}=>p8 (p:=0) (r:=r) (q:=q) h.args
 have mem:∀ {r q},gU 0 ds ps r=some q->q∈ps:=fun e=>by
  obtain⟨k,_,e2⟩:=ix.1 e;exact List.mem_of_getElem? e2
 have isO:∀ b,lN ps b->∃ x:Nat×Nat,∃ q l,gU 0 ds ps x.1=some q/\q.hs[x.2]?=some (.own l)/\b∈q.fp x.2:=by
  rintro b ⟨q,hq,j,l,h1,h2⟩;obtain⟨k,hk⟩:=List.getElem?_of_mem hq;have hlen:∀ {ds:List DV} {vs:List Value} {ps:List fM} {p:Nat},ga w (fun b=>¬ lN ps b/\¬ pu ps b) ds vs ps->True:=fun _=>trivial
  have key:∀ (ok:Nat->Prop) (ds:List DV) (vs:List Value) (ps:List fM) (p k:Nat) (q:fM),ga w ok ds vs ps->ps[k]?=some q->∃ r,(mpL p ds)[k]?=some (r,q.hs):=by
   intro ok ds
   induction ds with
   |nil=>intro vs ps p k q h e;simp only[ga]at h;rw[h.2]at e;simp at e
   | cons d ds ih=>
     intro vs ps p k q h e;cases d with
     | mp hs=>
       obtain⟨p0,ps',vs',rfl,rfl,e0,h⟩:=h;cases k with
       |zero=>simp at e;subst e;exact⟨p,by simp[mpL,e0]⟩
       |succ k=>simp at e;obtain⟨r,hr⟩:=ih vs' ps' (p+1) k q h e;exact⟨r,by simpa[mpL]using hr⟩
     |one l=>obtain⟨v,vs',S,rfl,_,_,h⟩:=h;exact ih vs' ps (p+1) k q h e
     |agg l=>obtain⟨v,vs',S,rfl,_,_,h⟩:=h;exact ih vs' ps (p+1) k q h e
     |ptr l=>obtain⟨v,vs',S,rfl,_,_,h⟩:=h;exact ih vs' ps (p+1) k q h e
     |fn f l=>obtain⟨v,vs',S,rfl,_,_,h⟩:=h;exact ih vs' ps (p+1) k q h e
  obtain⟨r,hr⟩:=key _ ds vs ps 0 k q h.args hk;exact⟨(r,j),q,l,ix.2 ⟨k,hr,hk⟩,h1,h2⟩
 let G:Gh:={
  loc:=fun r=>(gU 0 ds ps r).map fun q=>(q.b,q.off)
  val:=fun r j=>((gU 0 ds ps r).map fun q=>q.val j).getD undef
  fp:=fun r j=>((gU 0 ds ps r).map fun q=>q.fp j).getD []
  ow:=fun b=>if ho:lN ps b then some (.leaf (isO b ho).choose.1 (isO b ho).choose.2)else if pu ps b then some (.box b)else if b<w.heap.size then some .ro else none
  lead:=fun r=>((gU 0 ds ps r).map fun q=>q.b).getD 0}
 have ixne:∀ {r r' q q'},gU 0 ds ps r=some q->gU 0 ds ps r'=some q'->r≠r'->∃ k k':Nat,k≠k'/\ps[k]?=some q/\ps[k']?=some q':=by
  intro r r' q q' e1 e2 hne;obtain⟨k,a1,a2⟩:=ix.1 e1;obtain⟨k',b1,b2⟩:=ix.1 e2;refine⟨k,k',fun e=>?_,a2,b2⟩;subst e;have h:=a1.symm.trans b1;simp at h;exact hne h.1
 have owO:∀ r j q l,gU 0 ds ps r=some q->q.hs[j]?=some (.own l)->∀ b∈q.fp j,G.ow b=some (.leaf r j):=by
  intro r j q l e1 e2 b hb;have ho:lN ps b:=⟨q,mem e1,j,l,e2,hb⟩;simp only[G,dif_pos ho];obtain⟨q',l',f1,f2,f3⟩:=(isO b ho).choose_spec;generalize(isO b ho).choose=x at*;by_cases c:x.1=r
  ·rw[c,e1]at f1;cases f1;by_cases cj:x.2=j
   ·rw[c,cj]
   ·obtain⟨k,_,hk⟩:=ix.1 e1;exact absurd hb (h.disj k _ k j q q l' l hk hk f2 e2 (fun e=>cj (by cases e;rfl)) b f3)
  ·obtain⟨k,k',hne,hk,hk'⟩:=ixne f1 e1 c;exact absurd hb (h.disj k _ k' j q' q l' l hk hk' f2 e2 (fun e=>hne (by cases e;rfl)) b f3)
 have owP:∀ b,pu ps b->G.ow b=some (.box b):=by
  intro b hb;simp only[G,dif_neg (h.box b hb),VT hb]
 have owR:∀ b,b<w.heap.size->¬ lN ps b/\¬ pu ps b->G.ow b=some .ro:=by
  intro b hb ⟨h1,h2⟩;simp only[G,dif_neg h1,VU h2,VT hb]
 have cellq:∀ {r q},gU 0 ds ps r=some q->∃ cur ty,w.heap[q.b]?=some (.cells cur ty (0,0))/\q.off+q.hs.length<=cur.size/\∀ j,j<q.hs.length->cur[q.off+j]?=some (q.val j):=fun e=>h.cell _ (mem e)
 refine⟨G,rfl,by simp;omega,?_,?_,?_,?_,?_,?_,Same.refl _ _,?_,?_,?_,?_,?_,?_,fun _ _=>trivial⟩
 ·intro d x hx;obtain⟨i,rfl,e2,e3⟩:=i3 d x hx;have hv:∀ v,vs[i]?=some v->(vs.toArray++YT (n-vs.toArray.size) undef).getD (0+i) undef=v:=by
   intro v hv;simp only[YD,ZS];rw[Array.getElem?_append_left (by simpa using e2)];simp[hv]
  refine⟨by show 0+i<n;omega,?_⟩;rcases e3 with⟨q,k1,k2,k3⟩|⟨dv,v,S,k1,k2,k3,k4⟩
  ·refine⟨_,k2,?_⟩;simp only[cM,gW];exact⟨q.b,q.off,by simp only[G,k1,Yk],hv _ k3⟩
  ·refine⟨_,k1,?_⟩;simp only;rw[hv _ k2];have tok:∀ b∈S,b<w.heap.size->G.ow b=some .ro:=fun b hb hlt=>owR b hlt (k4 b hb)
   cases dv with
   | one l=>
     simp only[mS,cM];have:=oT (γ:=gl (get (eD al 0 ds))) (G:=G) [l] [v] S (by simp only[ai];exact⟨v,[],S,[],rfl,k3,⟨rfl,rfl⟩,by simp⟩) (fun b hb=>tok b hb (bM.lt _ _ _ k3 b hb));simp only[ZT,List.map_nil,bS]at this;obtain⟨v',vs'',e,h3,_⟩:=this;cases e;exact h3
   | agg lls=>
     obtain⟨us,e,h1⟩:=k3;simp only[mS,cM];exact⟨us,e,oT _ _ S h1 (fun b hb=>tok b hb (ai.lt _ _ _ h1 b hb))⟩
   | ptr rec=>
     obtain⟨b,off,cur,ty,fz,S',e1,e2,e3,e4,rfl⟩:=k3;simp only[mS,cM];exact⟨b,off,cur,ty,fz,S',e1,e2,tok b (by simp) (ZD.1 e2).1,e3,e4,fun c hc=>tok c (by simp[hc]) (ai.lt _ _ _ e4 c hc)⟩
   | fn f caps=>
     obtain⟨us,e,h1⟩:=k3;simp only[mS,cM];refine⟨us,e,?_⟩;have key:∀ (caps:af) (us:List Value) (S':List Nat),iF w caps us S'->(∀ b∈S',b∈S)->dM G w (caps.map fun rec=>.rp rec 0) us:=by
      intro caps
      induction caps with
      |nil=>intro us S' h _;simp only[iF]at h;simp[dM,h.1]
      | cons r rs ih=>
        intro us S' h hsub;simp only[iF]at h;obtain⟨v,vs',S1,S2,rfl,q1,q2,rfl⟩:=h;obtain⟨b,off,cur,ty,fz,S3,e1,e2,e3,e4,rfl⟩:=q1;exact⟨v,vs',rfl,⟨b,off,cur,ty,fz,S3,e1,e2,tok b (hsub b (by simp)) (ZD.1 e2).1,e3,e4,fun c hc=>tok c (hsub c (by simp[hc])) (ai.lt _ _ _ e4 c hc)⟩,ih _ _ q2 (fun b hb=>hsub b (by simp[hb]))⟩
     exact key caps us S h1 (fun b hb=>hb)
   |mp hs=>exact k3.elim
 ·intro r k hk;rw[i1]at hk;cases e:gU 0 ds ps r with
  |none=>simp[e]at hk
  | some q=>
    simp[e]at hk;subst hk;obtain⟨cur,ty,f1,f2,f3⟩:=cellq e;refine⟨q.b,q.off,cur,ty,by simp[G,e],?_,f1,f2,fun j hj=>by simp[G,e,f3 j hj]⟩;rw[owP q.b ⟨q,mem e,rfl⟩];simp[G,e]
 ·intro r j x hx;rw[i2]at hx;cases e:gU 0 ds ps r with
  |none=>simp[e]at hx
  | some q=>
    simp only[e,YJ,ZA]at hx;obtain⟨hv,e1,rfl⟩:=hx;obtain⟨c,k1,k2,k3,k4,k5,k6⟩:=Db e1;refine⟨hv,q.hs.length,true,rfl,by rw[i1,e];rfl,(ZC.1 k1).1,?_⟩;unfold dN;rw[k4];cases c with
    | own l=>
      obtain⟨m1,m2,m3⟩:=h.own q (mem e) j l k1;simp only[G,e,Yk,ZZ];exact⟨m1,m2,fun b hb=>⟨owO r j q l e k1 b hb,m3 b hb⟩⟩
    | ro l=>
      obtain⟨m1,m2⟩:=h.ro q (mem e) j l k1;simp only[G,e,Yk,ZZ];exact⟨q.fp j,m1,fun b hb=>owR b (bM.lt _ _ _ m1 b hb) (m2 b hb)⟩
    |gone=>exact absurd k1 (h.gone q (mem e) j)
 ·intro r x hx;rw[i1]at hx;cases e:gU 0 ds ps r with
  |none=>simp[e]at hx
  |some q=>simp[e]at hx;exact⟨_,_,hx.symm⟩
 ·intro r b hb;cases e:gU 0 ds ps r with
  |none=>simp[G,e]at hb
  |some q=>exact⟨q.hs.length,by rw[i1,e];rfl⟩
 ·intro b t hb;simp only[G]at hb;split at hb
  ·rename_i ho;obtain⟨q,hq,j,l,e1,e2⟩:=ho;exact bM.lt _ _ _ (h.own q hq j l e1).1 b e2
  ·split at hb
   ·rename_i hp;obtain⟨q,hq,rfl⟩:=hp;obtain⟨cur,ty,f1,_⟩:=h.cell q hq;exact(ZD.1 f1).1
   ·split at hb
    ·rename_i c;exact c
    ·cases hb
 ·intro b hb hf;exact .inr (owR b hb hf)
 ·intro r j hv e i hi;rw[au,i2]at e;cases e0:gU 0 ds ps r with
  |none=>simp[e0]at e
  | some q=>
    simp only[e0,YJ,ZA]at e;obtain⟨hv',e1,e2⟩:=e;cases e2;obtain⟨c,k1,k2,k3,k4,k5,k6⟩:=Db e1;cases c with
    | own l'=>
      rw[k5 l' rfl]at hi;cases al with
      |false=>cases hi
      | true=>
        cases hi;rw[ZS];show _=anc _;rw[hanc2 r q j l' rfl e0 k1];simp[G,e0]
    | ro l'=>
      rw[k6 (by simp)]at hi;cases hi;rw[ZS];show _=anc _;rw[hanc r q j l' e0 k1];simp[G,e0]
    |gone=>exact absurd k1 (h.gone q (mem e0) j)
 ·intro r x hx;cases e:gU 0 ds ps r with
  |none=>simp[e]at hx
  |some q=>exact⟨hx,by rw[i1,e];simp[e]⟩
 ·intro r b off hx;cases e:gU 0 ds ps r with
  |none=>simp[e]at hx
  | some q=>
    simp[e]at hx;obtain⟨rfl,rfl⟩:=hx;obtain⟨cur,ty,f1,f2,f3⟩:=cellq e;exact⟨cur,cur,ty,f1,f1,rfl,fun _ _=>rfl⟩
 ·intro r1 r2 k1 k2 b o1 o2 hne h1 h2 q1 q2;rw[i1]at h1 h2;cases e1:gU 0 ds ps r1 with
  |none=>simp[e1]at h1
  | some a1=>
    cases e2:gU 0 ds ps r2 with
    |none=>simp[e2]at h2
    | some a2=>
      simp[e1]at h1;simp[e2]at h2;simp[G,e1]at q1;simp[G,e2]at q2;obtain⟨rfl,rfl⟩:=q1;obtain⟨q2,rfl⟩:=q2;obtain⟨k,k',hk,m1,m2⟩:=ixne e1 e2 hne;have:=h.sep k k' a1 a2 hk m1 m2 q2.symm;omega
 ·intro r b off hx ha;cases e:gU 0 ds ps r with
  |none=>simp[G,e]at hx
  |some q=>simp[e]at ha
end
end Go.V