/-
  A condition generator for functions on trees of data, part 1 of 5: values in memory, contracts, soundness.
-/
import Derived.WalkKit
import Derived.Orders
import Derived.MapKept
import Derived.Laws.StructEq
import Derived.Maps.RangeRun
set_option linter.all false
open Go
open Act renaming put->YK
open Addr renaming add->Xq
open BitVec renaming ofInt->ZW
open Bool renaming and_eq_true->Zc,false_eq_true->ZI,not_eq_true'->YB
open Function renaming comp_def->WP,comp->Vt
open Instr renaming sureAddr->Wb,fieldAt->WL,indexAt->WM,sliceBounds->Xt,sliceBound->Wd,fill->Y8
open IntKind renaming i64->Za
open List renaming replicate->ZM,mem_cons->Zk,mem_append->Zg,drop_append->XE,drop_of_length_le->Y1,nil_append->ZJ,getElem?_take->ZC,getElem?_drop->Zy,getElem?_eq_some_iff->ZF,set_cons_zero->Y5,take_zero->Y0,drop_left->WJ,take_append->Xp,take_of_length_le->Yj,set_cons_succ->XF,cons_append->ZP,length_cons->Zp,take_succ_cons->XG,getD->Zv,nodup_append->Zu,ext_getElem?->ZN,nodup_cons->Yr,length_take->Zm,length_drop->Zz,append_assoc->Zj,getElem?_append_left->Yd,getElem?_append_right->ZX,take_append_drop->ZR,range->Zl,map_cons->ZT,map_map->Xr,getElem?_eq_none->ZV,getElem?_map->ZD,drop_zero->Wc,drop_succ_cons->WN,nodup_nil->ZL,contains_eq_mem->We,flatten_cons->ZZ,replicate_succ->XI,size_toArray->Yw
open Nat renaming beq->ZK,add_mul->Zs,add_comm->X9,le_trans->Z8,lt_of_lt_of_le->Ym,le_refl->Zf,zero_mul->Y6,zero_add->Zx,one_mul->Wa,mul_le_mul_right->Z4,lt_or_ge->ZY,zero_le->Ze,add_zero->Zi,eq_of_beq_eq_true->Z5,add_assoc->YD,min_eq_left->Xs
open Option renaming none->Xo,bind_some->YC,map_eq_some_iff->ZB,getD_some->Z0
open Option.some renaming inj->YA,injEq->Ya
open Prod.mk renaming injEq->XH
open Program renaming fieldsOf->Vs
open Result renaming andThen_ok->Z2,andThen->Z6
open Sem renaming run_bind->ZQ,run_pure->Yi
open Value renaming oneCell'->WO
open World renaming cell?_of_block->WI
open _root_.Array renaming getElem?_eq_some_iff->ZE,getElem?_toList->Z1,length_toList->ZS,range->Wh
namespace Go.V
theorem Uc{p:Prop}(h:p:=by omega):p:=h
theorem Ud{p:Prop}(h:p:=by assumption):p:=h
open Go.MapKept (Stamped)
universe u
def VB{p:Prop}[Decidable p]:p->decide p=true:=decide_eq_true
def VC{p:Prop}[Decidable p]:Not p->decide p=false:=decide_eq_false
def VD{p:Prop}[Decidable p]:(decide p=true)=p:=decide_eq_true_eq
def VE{c:Prop}{h:Decidable c}(hc:c){a:Sort u}{t e:a}:ite c t e=t:=if_pos hc
def VF{c:Prop}{h:Decidable c}(hc:Not c){a:Sort u}{t e:a}:ite c t e=e:=if_neg hc
def VG{p:Prop}[inst:Decidable p]:decide p=true->p:=of_decide_eq_true
inductive L where
 |v (x:Value)
 |s (sz:Nat) (es:List (List L))
 |g
 |m (kb:Bool) (es:List (List L))
abbrev ax :=List L
abbrev ab :=List ax
abbrev L.i (x:Int):L:=.v (.int Za x)
def scal:Value->Bool
 | .int _ _| .bool _| .string _=>true
 | .slice none 0 0=>true
 |_=>false
inductive H where
 |own (l:L)
 |ro (l:L)
 |gone
def LF:Bool->Value->Bool
 |true,.bool _=>true
 |false,.int Za _=>true
 |_,_=>false
def eW (kb:Bool):List MapEntry->ab->Prop
 |[],es=>es=[]
 |e::l,es=>∃ k r,es=[.i k,.v e.val]::r/\e.key=.int Za k/\LF kb e.val=true/\eW kb l r
mutual
def bN (w:World):L->Value->List Nat->Prop
 | .v x,val,S=>val=x/\scal x=true/\S=[]
 | .g,val,S=>val.oneCell'=true/\S=[]
 | .m kb es,val,S=>∃ b ents clock,val=.map (some b)/\w.heap[b]?=some (.map ents clock)/\Stamped ents clock/\eW kb ents.toList es/\S=[b]
 | .s sz es,val,S=>∃ base len cap,val=.slice base len cap/\len=es.length/\len<=cap/\cap<=maxLen/\
    ((cap=0/\S=[])\/
     ∃ b off cur ty fz S',base=some ⟨b,off,none⟩/\w.heap[b]?=some (.cells cur ty fz)/\off+cap*sz<=cur.size/\
      bH w sz es ((cur.toList.drop off).take (len*sz)) S'/\S=b::S')
def ak (w:World):ax->List Value->List Nat->Prop
 |[],vs,S=>vs=[]/\S=[]
 |l::ls,vs,S=>∃ v vs' S1 S2,vs=v::vs'/\bN w l v S1/\ak w ls vs' S2/\S=S1++S2
def bH (w:World)(sz:Nat):ab->List Value->List Nat->Prop
 |[],vs,S=>vs=[]/\S=[]
 |e::es,vs,S=>∃ v1 v2 S1 S2,vs=v1++v2/\v1.length=sz/\ak w e v1 S1/\bH w sz es v2 S2/\S=S1++S2
end
inductive DV where
 |one (l:L)
 |agg (ls:ax)
 |ptr (rec:ax)
 |fn (f:FuncId) (caps:ab)
 |mp (hs:List H)
abbrev DV.j (x:Int):DV:=.one (.i x)
abbrev DV.k (b:Bool):DV:=.one (.v (.bool b))
def pw (w:World):DV->Value->List Nat->Prop
 | .one l,v,S=>bN w l v S
 | .agg ls,v,S=>∃ vs,v=.agg vs.toArray/\ak w ls vs S
 |_,_,_=>False
def acI (w:World)(rec:ax)(v:Value)(S:List Nat):Prop:=
 ∃ b off cur ty fz S',v=.pointer (some ⟨b,off,none⟩)/\w.heap[b]?=some (.cells cur ty fz)/\off+rec.length<=cur.size/\ak w rec ((cur.toList.drop off).take rec.length) S'/\S=b::S'
def lJ (w:World):ab->List Value->List Nat->Prop
 |[],vs,S=>vs=[]/\S=[]
 |r::rs,vs,S=>∃ v vs' S1 S2,vs=v::vs'/\acI w r v S1/\lJ w rs vs' S2/\S=S1++S2
def qP (w:World):DV->Value->List Nat->Prop
 | .ptr rec,v,S=>acI w rec v S
 | .fn f caps,v,S=>∃ ps,v=.func (.func f) #[] ps.toArray/\lJ w caps ps S
 |d,v,S=>pw w d v S
def bU (w:World):List DV->List Value->List Nat->Prop
 |[],vs,S=>vs=[]/\S=[]
 |d::ds,vs,S=>∃ v vs' S1 S2,vs=v::vs'/\pw w d v S1/\bU w ds vs' S2/\S=S1++S2
def lK (w:World):List DV->Value->List Nat->Prop
 |[d],v,S=>pw w d v S
 |ds,v,S=>∃ vs,v=.tuple vs.toArray/\bU w ds vs S
def gR (ok:Nat->Prop)(w:World):List DV->List Value->Prop
 |[],vs=>vs=[]
 |d::ds,vs=>∃ v vs' S,vs=v::vs'/\qP w d v S/\(∀ b∈S,ok b)/\gR ok w ds vs'
def eV (w:World)(b:Nat):Prop:=(∃ cur ty,w.heap[b]?=some (.cells cur ty (0,0)))\/∃ es c,w.heap[b]?=some (.map es c)
def eV.keep {w w':World}{b:Nat}(h:eV w b)(hk:w'.heap[b]?=w.heap[b]?):eV w' b:=by unfold eV at h ⊢;rw[hk];exact h
def eV.lt {w:World}{b:Nat}(h:eV w b):b<w.heap.size:=by rcases h with⟨cur,ty,e⟩|⟨es,c,e⟩<;>exact(ZE.1 e).1
def eV.cells {w:World}{b:Nat}{cur:Array Value}{ty:TypeId}{fz:Nat×Nat}(h:eV w b)(e:w.heap[b]?=some (.cells cur ty fz)):fz=(0,0):=by
 rcases h with⟨c,t,h⟩|⟨es,c,h⟩<;>rw[e]at h<;>cases h<;>rfl
structure Same (fr:Nat->Prop)(w w':World):Prop where
 os:w'.os=w.os
 tape:w'.tape=w.tape
 output:w'.output=w.output
 size:w.heap.size<=w'.heap.size
 block:∀ b,b<w.heap.size->fr b->w'.heap[b]?=w.heap[b]?
def LI (P:Program)(f:FuncId)(ds res:List DV):Prop:=
 ∀ (w:World) (vs:List Value),gR (fun _=>True) w ds vs->
  Calls P f vs.toArray w fun e w'=>∃ v S,e=.returned v/\lK w' res v S/\S.Nodup/\(∀ b∈S,w.heap.size<=b/\eV w' b)/\Same (fun _=>True) w w'
inductive HQ where
 |pt (r j:Nat)
 |rp (rec:ax) (j:Nat)
inductive A where
 |v (x:Value)
 |nl
 |ro (sz:Nat) (es:ab)
 |rp (rec:ax) (j:Nat)
 |pt (r j:Nat)
 |pn (r j ver iv:Nat) (p:List (Nat×Nat))
 |vw (r j ver lo n:Nat)
 |vn (r j ver iv:Nat) (p:List (Nat×Nat)) (lo n:Nat)
 |fn (f:FuncId) (caps:List HQ)
 |mv (r j ver:Nat)
 |st (r j ver iv:Nat) (k:Int)
 |it (es:ab) (vs:List Int)
 |un
abbrev A.i (x:Int):A:=.v (.int Za x)
inductive R where
 |one (a:A)
 |agg (as:List A)
 |tup (rs:List R)
abbrev R.j (x:Int):R:=.one (.i x)
abbrev R.k (b:Bool):R:=.one (.v (.bool b))
structure Hv where
 ver:Nat
 iv:Nat
 org:Option Nat
 c:H
inductive Loc where
 |reg (d:Nat)
 |leaf (r j:Nat)
 |meta_ (r:Nat)
 |hd (r j:Nat)
deriving DecidableEq
inductive Val where
 |r (x:R)
 |h (x:Hv)
 |m (k:Nat) (box:Bool)
abbrev Gm :=Loc->Option Val
inductive W where
 |reg (d:Nat) (x:R)
 |leaf (r j:Nat) (x:Hv)
 |root (r:Nat) (box:Bool) (hs:List Hv)
 |gap (r j:Nat) (x:Hv)
def W.app (g:Gm):W->Gm
 | .reg d x,l=>if l=.reg d then some (.r x)else g l
 | .leaf r j x,l=>if l=.leaf r j then some (.h x)else g l
 | .gap r j x,l=>if l=.leaf r j then some (.h x)else g l
 | .root r box hs,l=>match l with
   | .meta_ r'=>if r'=r then some (.m hs.length box)else g l
   | .leaf r' j=>if r'=r then(hs[j]?).map .h else g l
   |l=>g l
def aT (g:Gm):List W->Gm
 |[]=>g
 |x::xs=>aT (x.app g) xs
structure Ln where
 f:ab->Nat
 ok:∀ a b:ab,a.length=b.length->f a=f b
def dS (ln:Ln):Option Val->Option (Nat×Nat×Nat)
 | some (.h h)=>match h.c with
   | .own (.s sz es)=>some (h.ver,sz,ln.f es)
   |_=>none
 |_=>none
inductive Rd (α:Type) where
 |fail
 |ret (a:α)
 |get (l:Loc) (k:Option Val->Rd α)
 |req (c:Prop) (k:Rd α)
 |br (b:Bool) (k1 k2:Rd α)
 |peek (r j:Nat) (ln:Ln) (k:Option (Nat×Nat×Nat)->Rd α)
def Rd.bind {α β:Type}:Rd α->(α->Rd β)->Rd β
 | .fail,_=>.fail
 | .ret a,f=>f a
 | .get l k,f=>.get l fun x=>(k x).bind f
 | .req c k,f=>.req c (k.bind f)
 | .br b k1 k2,f=>.br b (k1.bind f) (k2.bind f)
 | .peek r j ln k,f=>.peek r j ln fun x=>(k x).bind f
def Rd.Runs {α:Type}(g:Gm):Rd α->List Loc->α->Prop
 | .fail,_,_=>False
 | .ret a,ls,b=>ls=[]/\b=a
 | .get l k,ls,b=>∃ ls',ls=l::ls'/\(k (g l)).Runs g ls' b
 | .req c k,ls,b=>c/\k.Runs g ls b
 | .br c k1 k2,ls,b=>(c=true/\k1.Runs g ls b)\/(c=false/\k2.Runs g ls b)
 | .peek r j ln k,ls,b=>∃ ls',ls=.hd r j::ls'/\(k (dS ln (g (.leaf r j)))).Runs g ls' b
def Rd.wp {α:Type}(g:Gm):Rd α->(α->Prop)->Prop
 | .fail,_=>False
 | .ret a,K=>K a
 | .get l k,K=>(k (g l)).wp g K
 | .req c k,K=>c/\k.wp g K
 | .br c k1 k2,K=>(c=true->k1.wp g K)/\(c=false->k2.wp g K)
 | .peek r j ln k,K=>(k (dS ln (g (.leaf r j)))).wp g K
def Rd.wpT {α:Type}(g:Gm):Rd α->List Loc->(List Loc->α->Prop)->Prop
 | .fail,_,_=>False
 | .ret a,t,K=>K t.reverse a
 | .get l k,t,K=>(k (g l)).wpT g (l::t) K
 | .req c k,t,K=>c/\k.wpT g t K
 | .br c k1 k2,t,K=>(c=true->k1.wpT g t K)/\(c=false->k2.wpT g t K)
 | .peek r j ln k,t,K=>(k (dS ln (g (.leaf r j)))).wpT g (.hd r j::t) K
structure TI where
 agg:Bool
 slots:List (Option Nat)
 zero:ax
def slots (P:Program):Nat->TypeId->Option (List (Option Nat))
 |0,_=>none
 | f+1,t=>match P.underlying t with
   |some (.int _)|some .bool|some .string=>some [none]
   |some (.slice e)=>(P.info? e).map fun i=>[some i.size]
   |some (.map _ _)=>some [some 0]
   | some (.struct fs)=>fs.toList.foldr (fun fd acc=>match slots P f fd.type,acc with
      |some a,some b=>some (a++b)
      |_,_=>none) (some [])
   |_=>none
def qk:List (Option Nat)->List Value->Option ax
 |[],[]=>some []
 |none::ss,x::xs=>if scal x then(qk ss xs).map (.v x:: ·)else none
 |some sz::ss,.slice none 0 0::xs=>(qk ss xs).map (.s sz []:: ·)
 |some _::ss,.map none::xs=>(qk ss xs).map (.g:: ·)
 |_,_=>none
def oO (P:Program)(t:TypeId):Option TI:=
 match P.info? t,P.underlying t,slots P 8 t with
 | some i,some d,some sl=>match i.zero with
   | some z=>match qk sl z.cells.toList with
     |some zr=>if zr.length=i.size then some ⟨(match d with| .struct _=>true|_=>false),sl,zr⟩else none
     |none=>none
   |none=>none
 |_,_,_=>none
def Gu (P:Program)(t:TypeId):Option (TypeId×TI×Nat):=
 match P.underlying t with
 | some (.slice e)=>match oO P e,P.info? e with
   |some ti,some i=>if 0<i.size then some (e,ti,i.bytes)else none
   |_,_=>none
 |_=>none
def fdI (P:Program)(s:TypeId)(f:Nat):Option Nat:=
 match P.underlying s with
 | some (.struct fs)=>match fs[f]? with
   | some fd=>match P.info? fd.type with
     |some i=>if i.size=0 then none else some fd.offset
     |none=>none
   |none=>none
 |_=>none
def bT:L->List (Nat×Nat)->Option (ax×Nat)
 | .s _ es,[(i,j)]=>(es[i]?).map (·,j)
 | .s _ es,(i,j)::p=>match es[i]? with
   | some rec=>match rec[j]? with
     |some l=>bT l p
     |none=>none
   |none=>none
 |_,_=>none
def mR:L->List (Nat×Nat)->ax->L
 | .s sz es,[(i,j)],new=>.s sz (es.set i ((es.getD i []).take j++new++(es.getD i []).drop (j+new.length)))
 | .s sz es,(i,j)::p,new=>.s sz (es.set i ((es.getD i []).set j (mR ((es.getD i []).getD j .g) p new)))
 |l,_,_=>l
def xE:List (Nat×Nat)->Nat->List (Nat×Nat)
 |[],_=>[]
 |[(i,j)],o=>[(i,j+o)]
 |x::y::p,o=>x::xE (y::p) o
end Go.V
namespace Go.V
inductive Out where
 |ws (l:List W)
 |call (f:FuncId) (ds:List DV) (mk:List DV->List W)
def rd {α:Type}(l:Loc)(k:Val->Rd α):Rd α:=.get l fun
 |some v=>k v
 |none=>.fail
def G3 {α:Type}(d:Nat)(k:R->Rd α):Rd α:=rd (.reg d) fun
 | .r x=>k x
 |_=>.fail
def ig {α:Type}(r j:Nat)(k:Hv->Rd α):Rd α:=rd (.leaf r j) fun
 | .h x=>k x
 |_=>.fail
def A2:Value->A
 | .slice none 0 0=>.nl
 |x=>.v x
def EL:Value->R
 | .agg cs=>.agg (cs.toList.map A2)
 |c=>.one (A2 c)
def ev {α:Type}(x:Operand)(k:R->Rd α):Rd α:=
 match x with
 | .tmp t=>G3 t k
 | .const c=>k (EL c)
 |_=>.fail
def gT {α:Type}(x:Operand)(k:A->Rd α):Rd α:=ev x fun
 | .one a=>k a
 |_=>.fail
def k8 {α:Type}(x:Operand)(k:IntKind->Int->Rd α):Rd α:=gT x fun
 | .v (.int kd n)=>k kd n
 |_=>.fail
def ES {α:Type}(x:Operand)(k:Bool->Rd α):Rd α:=gT x fun
 | .v (.bool b)=>k b
 |_=>.fail
def bE (n:Nat)(d:Option Tmp)(x:R):Rd Out:=
 match d with
 |some d=>if d<n then .ret (.ws [.reg d x])else .fail
 |none=>.ret (.ws [])
def J1 (r j:Nat)(h:Hv):A:=
 match h.c with
 | .own (.v x)=>.v x
 | .own (.s _ es)=>.vw r j h.ver 0 es.length
 | .own .g=>.un
 | .own (.m _ _)=>.mv r j h.ver
 | .ro (.v x)=>.v x
 | .ro (.s sz es)=>.ro sz es
 | .ro .g=>.un
 | .ro (.m _ _)=>.un
 | .gone=>.un
def RF:Option Nat->Option Nat
 |some i=>if ZK (i/1000000000) 1 then some i else none
 |none=>none
def LV (i:Nat):Nat:=(i-1000000000)/1000
def Pp (i:Nat):Nat:=i-1000000000-LV i*1000
def Bm {α:Type}(r j:Nat)(h:Hv)(k:A->Rd α):Rd α:=
 match h.c with
 | .gone=>match RF h.org with
   | some i=>ig (LV i) (Pp i) fun h'=>match h'.c with
     | .own (.s _ es)=>match RF h'.org with
       |some i'=>if ZK (LV i') (LV i)&&ZK (Pp i') (Pp i)then k (.vw (LV i) (Pp i) h'.ver 0 es.length)else k .un
       |none=>k .un
     |_=>k .un
   |none=>k .un
 | .own _=>k (J1 r j h)
 | .ro _=>k (J1 r j h)
def fb {α:Type}(r:Nat):Nat->Nat->(List A->Rd α)->Rd α
 |_,0,k=>k []
 |j,m+1,k=>ig r j fun h=>Bm r j h fun a=>fb r (j+1) m fun as=>k (a::as)
def roA:L->A
 | .v x=>.v x
 | .s sz es=>.ro sz es
 | .g=>.un
 | .m _ _=>.un
def lc (r j ver iv:Nat)(p:List (Nat×Nat)):Nat->ax->List A
 |_,[]=>[]
 |o,.v x::ls=>.v x::lc r j ver iv p (o+1) ls
 |o,.s _ es::ls=>.vn r j ver iv (xE p o) 0 es.length::lc r j ver iv p (o+1) ls
 |o,.g::ls=>.un::lc r j ver iv p (o+1) ls
 |o,.m _ _::ls=>.un::lc r j ver iv p (o+1) ls
def C0 (h:Hv)(ver iv:Nat)(p:List (Nat×Nat)):Bool:=h.ver==ver&&(p.length==1||h.iv==iv)
def jm (h:Hv)(ver iv:Nat):Bool:=h.ver==ver&&h.iv==iv
def Qr (ti:TI)(as:List A)(k:R->Rd Out):Rd Out:=
 if ti.agg then k (.agg as)else match as with
  |[a]=>k (.one a)
  |_=>.fail
def Hz (P:Program)(n:Nat)(d:Option Tmp)(t:TypeId)(x:Operand):Rd Out:=
 match oO P t with
 |none=>.fail
 | some ti=>gT x fun
   | .pt r j=>fb r j ti.zero.length fun as=>Qr ti as (bE n d)
   | .pn r j ver iv p=>ig r j fun h=>
     if C0 h ver iv p then match h.c with
      | .own l=>match bT l p with
        |some (rec,o)=>.req (o+ti.zero.length<=rec.length) (Qr ti (lc r j ver h.iv p 0 ((rec.drop o).take ti.zero.length)) (bE n d))
        |none=>.fail
      |_=>.fail
     else .fail
   | .rp rec o=>.req (o+ti.zero.length<=rec.length) (Qr ti (((rec.drop o).take ti.zero.length).map roA) (bE n d))
   |_=>.fail
def take1 {α:Type}(slot:Option Nat)(a:A)(k:L->Option Nat->List (Nat×Nat)->Rd α):Rd α:=
 match a,slot with
 | .v x,none=>if scal x then k (.v x) none []else .fail
 | .nl,some sz=>k (.s sz []) none []
 | .vw r j ver lo m,some sz=>ig r j fun h=>
   match h.c with
   | .own (.s sz' es)=>if h.ver==ver&&sz'==sz then .req (lo=0/\m=es.length) (k (.s sz' es) h.org [(r,j)])else .fail
   |_=>.fail
 | .mv r j ver,some _=>ig r j fun h=>
   match h.c with
   | .own (.m kb es)=>if h.ver==ver then k (.m kb es) h.org [(r,j)]else .fail
   |_=>.fail
 |_,_=>.fail
def dc {α:Type}:List (Option Nat)->List A->(List (L×Option Nat)->List (Nat×Nat)->Rd α)->Rd α
 |[],[],k=>k [] []
 |sl::sls,a::as,k=>take1 sl a fun l og src=>dc sls as fun ls srcs=>k ((l,og)::ls) (src++srcs)
 |_,_,_=>.fail
def bp:List (Nat×Nat)->Bool
 |[]=>true
 |x::xs=> !xs.contains x&&bp xs
def jk {α:Type}:List (Nat×Nat)->(List W->Rd α)->Rd α
 |[],k=>k []
 |(r,j)::xs,k=>ig r j fun h=>jk xs fun ws=>k (.leaf r j ⟨h.ver+1,h.iv,none,.gone⟩::ws)
def dK:R->Option (List A)
 | .one a=>some [a]
 | .agg as=>some as
 | .tup _=>none
def QF {α:Type}(slot:Option Nat)(a:A)(k:H->Option Nat->List (Nat×Nat)->Rd α):Rd α:=
 match a,slot with
 | .ro sz' es,some sz=>if sz'==sz then k (.ro (.s sz' es)) none []else .fail
 | .vw r j ver lo m,some sz=>ig r j fun h=>match RF h.org with
   | some i=>match h.c with
     | .own (.s sz' es)=>if h.ver==ver&&sz'==sz then .req (lo=0/\m=es.length) (k .gone (some i) [])else .fail
     |_=>.fail
   |none=>take1 (some sz) (.vw r j ver lo m) fun l og src=>k (.own l) og src
 |a,slot=>take1 slot a fun l og src=>k (.own l) og src
def oI {α:Type}:List (Option Nat)->List A->(List (H×Option Nat)->List (Nat×Nat)->Rd α)->Rd α
 |[],[],k=>k [] []
 |sl::sls,a::as,k=>QF sl a fun h og src=>oI sls as fun hs srcs=>k ((h,og)::hs) (src++srcs)
 |_,_,_=>.fail
def ir {α:Type}(r:Nat):Nat->List (H×Option Nat)->(List W->Rd α)->Rd α
 |_,[],k=>k []
 |j,(c,og)::cs,k=>ig r j fun h=>ir r (j+1) cs fun ws=>k (.leaf r j ⟨h.ver+1,h.iv+1,og,c⟩::ws)
def E1 (r j m:Nat)(p:Nat×Nat):Bool:=p.1==r&&j<=p.2&&p.2<j+m
def Cf (P:Program)(t:TypeId)(x y:Operand):Rd Out:=
 match oO P t with
 |none=>.fail
 | some ti=>gT x fun p=>ev y fun val=>
   match dK val with
   |none=>.fail
   | some as=>
     match p with
     | .pt r j=>oI ti.slots as fun hs srcs=>
       if bp srcs&&srcs.all (fun s=> !E1 r j hs.length s)then
        jk srcs fun w1=>ir r j hs fun w2=>.ret (.ws (w1++w2))
       else .fail
     | .pn r j ver iv p=>dc ti.slots as fun ls srcs=>
       if bp srcs&&srcs.all (fun s=>s !=(r,j))then
        jk srcs fun w1=>ig r j fun h=>
         if C0 h ver iv p then match h.c with
          | .own l=>match bT l p with
            |some (rec,o)=>.req (o+ls.length<=rec.length) (.ret (.ws (w1++[.leaf r j ⟨h.ver,h.iv+1,h.org,.own (mR l p (ls.map (·.1)))⟩])))
            |none=>.fail
          |_=>.fail
         else .fail
       else .fail
     |_=>.fail
def fresh {α:Type}(n:Nat)(d:Option Tmp)(k:Nat->Rd α):Rd α:=
 match d with
 | some d=>if d<n then .get (.meta_ d) fun
   |none=>k d
   |some _=>.fail
   else .fail
 |none=>.fail
def yO:List (H×Option Nat)->List Hv:=List.map fun c=>⟨0,0,c.2,c.1⟩
def OP (P:Program)(n:Nat)(d:Option Tmp)(t:TypeId)(x:Operand):Rd Out:=
 match oO P t with
 |none=>.fail
 | some ti=>ev x fun val=>
   match dK val with
   |none=>.fail
   | some as=>fresh n d fun d=>oI ti.slots as fun hs srcs=>
     if bp srcs then jk srcs fun w1=>.ret (.ws (w1++[.root d true (yO hs),.reg d (.one (.pt d 0))]))else .fail
def B0 (P:Program)(n:Nat)(d:Option Tmp)(t:TypeId):Rd Out:=
 match oO P t with
 |none=>.fail
 |some ti=>fresh n d fun d=>.ret (.ws [.root d true (ti.zero.map fun l=>⟨0,0,none,.own l⟩),.reg d (.one (.pt d 0))])
def ownRow (d sz:Nat)(es:ab):List W:=[.root d false [⟨0,0,none,.own (.s sz es)⟩],.reg d (.one (.vw d 0 0 0 es.length))]
def HC (P:Program)(n:Nat)(d:Option Tmp)(t:TypeId)(len cap:Operand):Rd Out:=
 match Gu P t with
 |none=>.fail
 | some (_,ti,bytes)=>k8 len fun kl l=>k8 cap fun kc c=>
   if kl==.i64&&kc==.i64 then
    .req (0<=l/\l<=c/\c*(bytes:Int)<=70368744177664/\c<=70368744177664) (fresh n d fun d=>.ret (.ws (ownRow d ti.zero.length (ZM l.toNat ti.zero))))
   else .fail
def gB (z:ab):List (Nat×ax)->ab
 |[]=>z
 |(i,ls)::ps=>gB (z.set i ls) ps
def partsOf {α:Type}(ti:TI)(len:Nat):List (Nat×Operand)->(List (Nat×ax)->List (Nat×Nat)->Rd α)->Rd α
 |[],k=>k [] []
 | (i,x)::ps,k=>if i<len then ev x fun val=>match dK val with
     |none=>.fail
     |some as=>dc ti.slots as fun ls src=>partsOf ti len ps fun rest srcs=>k ((i,ls.map (·.1))::rest) (src++srcs)
  else .fail
def j7 (P:Program)(n:Nat)(d:Option Tmp)(t:TypeId)(len:Nat)(parts:Array (Nat×Operand)):Rd Out:=
 match Gu P t with
 |none=>.fail
 | some (_,ti,_)=>if len*ti.zero.length<=16777216 then
    partsOf ti len parts.toList fun ps srcs=>if bp srcs then jk srcs fun w1=>fresh n d fun d=>.ret (.ws (w1++ownRow d ti.zero.length (gB (ZM len ti.zero) ps)))else .fail
   else .fail
def OY:L->A
 | .v x=>.v x
 | .s _ _=>.nl
 | .g=>.un
 | .m _ _=>.un
def splice (as:List A)(o:Nat)(bs:List A):List A:=as.take o++bs++as.drop (o+bs.length)
def bdI (P:Program)(t:TypeId):Option (List (Nat×Nat)):=
 match P.underlying t with
 |some (.struct fs)=>fs.toList.mapM fun f=>(P.info? f.type).map fun i=>(f.offset,i.size)
 |_=>none
def aam {α:Type}(a:A)(k:Rd α):Rd α:=
 match a with
 | .v x=>if x.oneCell' then k else .fail
 | .nl=>k
 | .ro _ _=>k
 | .vw r j ver _ _=>ig r j fun h=>match h.c with
   | .own (.s _ _)=>if h.ver==ver then k else .fail
   |_=>.fail
 |_=>.fail
def AY {α:Type}:List A->Rd α->Rd α
 |[],k=>k
 |a::as,k=>aam a (AY as k)
def jq {α:Type}(bd:List (Nat×Nat)):List (Nat×Operand)->List A->(List A->Rd α)->Rd α
 |[],as,k=>k as
 | (i,x)::ps,as,k=>match bd[i]? with
  |none=>.fail
  | some (o,m)=>ev x fun val=>match dK val with
    |none=>.fail
    |some bs=>if bs.length=m/\o+m<=as.length/\0<m then AY bs (jq bd ps (splice as o bs) k)else .fail
def B7 (P:Program)(n:Nat)(d:Option Tmp)(t:TypeId)(parts:Array (Nat×Operand)):Rd Out:=
 match oO P t,bdI P t with
 |some ti,some bd=>jq bd parts.toList (ti.zero.map OY) fun as=>bE n d (.agg as)
 |_,_=>.fail
def mV (P:Program)(n:Nat)(d:Option Tmp)(s:TypeId)(x:Operand)(f:Nat):Rd Out:=
 match fdI P s f with
 |none=>.fail
 | some o=>gT x fun
   | .pt r j=>bE n d (.one (.pt r (j+o)))
   | .rp rec j=>bE n d (.one (.rp rec (j+o)))
   | .pn r j ver iv p=>ig r j fun h=>match h.c with
     | .own _=>if C0 h ver iv p then bE n d (.one (.pn r j ver iv (xE p o)))else .fail
     |_=>.fail
   |_=>.fail
def mW (P:Program)(n:Nat)(d:Option Tmp)(t:TypeId)(x i:Operand):Rd Out:=
 match Gu P t with
 |none=>.fail
 | some (_,ti,_)=>gT x fun a=>k8 i fun _ i=>
   match a with
   | .ro sz es=>if sz==ti.zero.length then .req (0<=i/\i<es.length) (bE n d (.one (.rp (es.getD i.toNat []) 0)))else .fail
   | .vw r j ver lo m=>ig r j fun h=>match h.c with
     | .own (.s sz _)=>if h.ver==ver&&sz==ti.zero.length then .req (0<=i/\i<m) (bE n d (.one (.pn r j ver h.iv [(lo+i.toNat,0)])))else .fail
     |_=>.fail
   | .vn r j ver iv p lo m=>ig r j fun h=>match h.c with
     | .own l=>if jm h ver iv then match bT l p with
        | some (rec,o)=>match rec[o]? with
          |some (.s sz _)=>if sz==ti.zero.length then .req (0<=i/\i<m) (bE n d (.one (.pn r j ver iv (p++[(lo+i.toNat,0)]))))else .fail
          |_=>.fail
        |none=>.fail
       else .fail
     |_=>.fail
   |_=>.fail
def hK {α:Type}(x:Option Operand)(dflt:Int)(k:Int->Rd α):Rd α:=
 match x with
 |none=>k dflt
 |some x=>k8 x fun _ i=>k i
def Ce (P:Program)(n:Nat)(d:Option Tmp)(t:TypeId)(x:Operand)(low high max:Option Operand):Rd Out:=
 match Gu P t,max with
 | some (_,ti,_),none=>gT x fun
   | .ro sz es=>if sz==ti.zero.length then hK low 0 fun l=>hK high es.length fun h=>
      .req (0<=l/\l<=h/\h<=es.length) (bE n d (.one (.ro sz ((es.take h.toNat).drop l.toNat))))else .fail
   | .vw r j ver lo m=>ig r j fun hv=>match hv.c with
     | .own (.s sz _)=>if hv.ver==ver&&sz==ti.zero.length then hK low 0 fun l=>hK high m fun h=>
        .req (0<=l/\l<=h/\h<=m) (bE n d (.one (.vw r j ver (lo+l.toNat) (h.toNat-l.toNat))))else .fail
     |_=>.fail
   |_=>.fail
 |_,_=>.fail
def MN (op:BinOp)(k:IntKind)(a b:Int):Option (Prop×Value):=
 match op with
 | .add=>some (True,.int k (k.wrap (a+b)))
 | .sub=>some (True,.int k (k.wrap (a-b)))
 | .mul=>some (True,.int k (k.wrap (a*b)))
 | .quo=>some (b≠0,.int k (k.wrap (a.tdiv b)))
 | .rem=>some (b≠0,.int k (a.tmod b))
 | .and=>some (True,.int k (k.wrap (ZW k.bits a&&&ZW k.bits b).toNat))
 | .or=>some (True,.int k (k.wrap (ZW k.bits a|||ZW k.bits b).toNat))
 | .xor=>some (True,.int k (k.wrap (ZW k.bits a^^^ZW k.bits b).toNat))
 | .andNot=>some (True,.int k (k.wrap (ZW k.bits a&&& ~~~ ZW k.bits b).toNat))
 | .eql=>some (True,.bool (a==b))
 | .neq=>some (True,.bool (a !=b))
 | .lss=>some (True,.bool (decide (a<b)))
 | .leq=>some (True,.bool (decide (a<=b)))
 | .gtr=>some (True,.bool (decide (a>b)))
 | .geq=>some (True,.bool (decide (a>=b)))
 |_=>none
def Bh (op:BinOp)(k:IntKind)(a b:Int):Option Value:=
 match op with
 | .shl=>some (.int k (k.wrap (a*2^(min b.toNat k.bits))))
 | .shr=>some (.int k (a.fdiv (2^(min b.toNat k.bits))))
 |_=>none
def zo (P:Program)(t:TypeId):Bool:=match P.underlying t with
 |some .bool=>true
 |_=>false
def MS (P:Program)(t:TypeId):Option IntKind:=match P.underlying t with
 |some (.int k)=>some k
 |_=>none
def Lq (P:Program)(n:Nat)(d:Option Tmp)(op:BinOp)(t:TypeId)(x y:Operand):Rd Out:=
 gT x fun a=>gT y fun b=>
  match a,b with
  | .v (.int k a),.v (.int k' b)=>
    match Bh op k a b with
    |some v=>.req (0<=b) (bE n d (.one (.v v)))
    | none=>if k=k' then match MN op k a b with
       |some (c,v)=>.req c (bE n d (.one (.v v)))
       |none=>.fail
      else .fail
  | .v (.bool a),.v (.bool b)=>if zo P t then match op with
     | .eql=>bE n d (.k (a==b))
     | .neq=>bE n d (.k (a !=b))
     |_=>.fail
    else .fail
  |_,_=>.fail
def cmL (P:Program)(t:TypeId):Option Bool:=match P.underlying t with
 |some (.int _)=>some false
 |some .bool=>some true
 |_=>none
def PL (P:Program):Nat->List Field->Option (List Bool)
 |_,[]=>some []
 | j,f::fs=>if f.name != "_" &&f.offset==j then match cmL P f.type,PL P (j+1) fs with
    |some k,some ks=>some (k::ks)
    |_,_=>none
   else none
def RY (P:Program)(t:TypeId):Option (List Bool):=match P.underlying t with
 |some (.struct fs)=>if !P.stoodInHeld t&& !P.eqGuardType P.depth t then PL P 0 fs.toList else none
 |_=>none
def pM (cmp:BinOp->Int->Int->Bool)(bq:BinOp->Bool->Bool->Bool)(sel:Bool->Bool->Bool->Bool):List Bool->List A->List A->Option Bool
 |[],[],[]=>some true
 | false::ks,.v x::as,.v y::bs=>match x,y with
   | .int k a,.int k' b=>if k==k' then(match pM cmp bq sel ks as bs with
     |some r=>some (sel (cmp .eql a b) r false)
     |none=>none)else none
   |_,_=>none
 | true::ks,.v x::as,.v y::bs=>match x,y with
   | .bool a,.bool b=>match pM cmp bq sel ks as bs with
     |some r=>some (sel (bq .eql a b) r false)
     |none=>none
   |_,_=>none
 |_,_,_=>none
def acv (cm:TypeId->Option (List Bool))(cmp:BinOp->Int->Int->Bool)(bq:BinOp->Bool->Bool->Bool)(sel:Bool->Bool->Bool->Bool)(bn:Bool->Bool)(n:Nat)(d:Option Tmp)(op:BinOp)(t:TypeId)(x y:Operand):Rd Out:=
 match cm t with
 |none=>.fail
 | some ks=>ev x fun rx=>ev y fun ry=>match rx,ry with
   | .agg as,.agg bs=>match pM cmp bq sel ks as bs with
     | some r=>(match op with
        | .eql=>bE n d (.k r)
        | .neq=>bE n d (.k (bn r))
        |_=>.fail)
     |_=>.fail
   |_,_=>.fail
def cM (op:BinOp)(a b:Int):Bool:=
 match op with
 | .eql=>a==b
 | .neq=>a !=b
 | .lss=>decide (a<b)
 | .leq=>decide (a<=b)
 | .gtr=>decide (a>b)
 | .geq=>decide (a>=b)
 |_=>false
def F2 (op:BinOp)(a b:Bool):Bool:=
 match op with
 | .eql=>a==b
 |_=>a !=b
def L4 (b:Bool):Bool:= !b
def Fy (c x y:Bool):Bool:=bif c then x else y
def T7 (P:Program)(n:Nat)(d:Option Tmp)(op:BinOp)(t:TypeId)(x y:Operand):Rd Out:=
 ev x fun rx=>match rx with
  | .agg _=>acv (RY P) cM F2 Fy L4 n d op t x y
  |_=>Lq P n d op t x y
def vUn (n:Nat)(d:Option Tmp)(op:UnOp)(x:Operand):Rd Out:=
 gT x fun a=>match op,a with
  | .not,.v (.bool b)=>bE n d (.k (!b))
  | .neg,.v (.int k a)=>bE n d (.one (.v (.int k (k.wrap (0-a)))))
  |_,_=>.fail
def Qj {α:Type}(a:A)(k:Nat->Rd α):Rd α:=
 match a with
 | .nl=>k 0
 | .ro _ es=>k es.length
 | .vw r j ver _ m=>ig r j fun h=>match h.c with
   | .own (.s _ _)=>if h.ver==ver then k m else .fail
   |_=>.fail
 | .vn r j ver iv p _ m=>ig r j fun h=>match h.c with
   | .own l=>if jm h ver iv then match bT l p with
      | some (rec,o)=>match rec[o]? with
        |some (.s _ _)=>k m
        |_=>.fail
      |none=>.fail
     else .fail
   |_=>.fail
 |_=>.fail
def rt (P:Program)(t:TypeId):Bool:=match P.underlying t with
 |some (.slice _)=>true
 |_=>false
def wm (isMax:Bool):List Value->Option Value
 |[.int k a,.int k' b]=>if k=k' then some (.int k (if isMax then(if b>a then b else a)else(if b<a then b else a)))else none
 |_=>none
def nj (sl:List (Option Nat)):Bool:=sl.all (·.isNone)
def sn:ax->Prop
 |[]=>True
 | .v _::ls=>sn ls
 |_=>False
def cG:ab->Prop
 |[]=>True
 |e::es=>sn e/\cG es
def rQ {α:Type}(ti:TI)(a:A)(k:ab->List (Nat×Nat)->Rd α):Rd α:=
 match a with
 | .nl=>k [] []
 | .ro sz es=>if sz==ti.zero.length&&nj ti.slots then .req (cG es) (k es [])else .fail
 | .vw r j ver lo m=>ig r j fun h=>match h.c with
   | .own (.s sz es)=>if h.ver==ver&&sz==ti.zero.length then
      (if nj ti.slots then .req (cG es) (k ((es.drop lo).take m) [])
       else .req (lo=0/\m=es.length) (k es [(r,j)]))
     else .fail
   |_=>.fail
 | .vn r j ver iv p lo m=>ig r j fun h=>match h.c with
   | .own l=>if jm h ver iv&&nj ti.slots then match bT l p with
      | some (rec,o)=>match rec[o]? with
        |some (.s sz es)=>if sz==ti.zero.length then .req (cG es) (k ((es.drop lo).take m) [])else .fail
        |_=>.fail
      |none=>.fail
     else .fail
   |_=>.fail
 |_=>.fail
def nJ (P:Program)(n:Nat)(d:Option Tmp)(t t':TypeId)(s x:Operand):Rd Out:=
 match Gu P t with
 |none=>.fail
 | some (_,ti,bytes)=>if t==t' then gT s fun a=>gT x fun b=>
    take1 (some ti.zero.length) a fun l _ src=>match l with
     | .s sz es=>if sz==ti.zero.length then rQ ti b fun es2 src2=>if bp (src++src2)then
        .req ((es.length+es2.length)*bytes<=70368744177664/\es.length+es2.length<=70368744177664) (jk (src++src2) fun w1=>fresh n d fun d=>.ret (.ws (w1++ownRow d ti.zero.length (es++es2))))
       else .fail else .fail
     |_=>.fail
   else .fail
def ahe (es:ab)(lo m:Nat)(gr:ax):ab:=(es.drop 0).take lo++(ZM m gr++(es.drop (lo+m)).take es.length)
def ahd (z:ax):ax:=z.map fun _=>.g
def OM (P:Program)(n:Nat)(d:Option Tmp)(t t':TypeId)(s x:Operand):Rd Out:=
 match Gu P t with
 |none=>.fail
 | some (_,ti,bytes)=>if t==t' then gT s fun a=>gT x fun b=>
    take1 (some ti.zero.length) a fun l _ src=>match l with
     | .s sz es=>if sz==ti.zero.length then match b with
       | .vw r j ver lo m=>ig r j fun h=>match h.c with
         | .own (.s sz2 es2)=>if h.ver==ver&&sz2==ti.zero.length&&bp src&&src.all (fun p=>p !=(r,j))then
           .req ((es.length+m)*bytes<=70368744177664/\es.length+m<=70368744177664) (jk src fun w1=>fresh n d fun d=>.ret (.ws (w1++(.gap r j ⟨h.ver,h.iv+1,h.org,.own (.s sz2 (ahe es2 lo m (ahd ti.zero)))⟩::ownRow d ti.zero.length (es++(es2.drop lo).take m)))))
         else .fail
         |_=>.fail
       |_=>.fail
       else .fail
     |_=>.fail
   else .fail
def agj (P:Program)(n:Nat)(d:Option Tmp)(t t':TypeId)(s x:Operand):Rd Out:=
 gT x fun b=>match b with
  | .vw r _ _ _ _=>.get (.meta_ r) fun
    | some (.m _ true)=>match Gu P t with
      |some (_,ti,_)=>if nj ti.slots then nJ P n d t t' s x else OM P n d t t' s x
      |none=>.fail
    |_=>nJ P n d t t' s x
  |_=>nJ P n d t t' s x
def H5 {α:Type}(slot:Option Nat)(a:A)(k:L->Rd α):Rd α:=
 match a,slot with
 | .v x,none=>if scal x then k (.v x)else .fail
 | .nl,some sz=>k (.s sz [])
 | .ro sz' es,some sz=>if sz'==sz then k (.s sz' es)else .fail
 | .vw r j ver lo m,some sz=>ig r j fun h=>match h.c with
   | .own (.s sz' es)=>if h.ver==ver&&sz'==sz then k (.s sz' ((es.drop lo).take m))else .fail
   |_=>.fail
 | .vn r j ver iv p lo m,some sz=>ig r j fun h=>match h.c with
   | .own l=>if jm h ver iv then match bT l p with
      | some (rec,o)=>match rec[o]? with
        |some (.s sz' es)=>if sz'==sz then k (.s sz' ((es.drop lo).take m))else .fail
        |_=>.fail
      |none=>.fail
     else .fail
   |_=>.fail
 |_,_=>.fail
def f9 {α:Type}:List (Option Nat)->List A->(ax->Rd α)->Rd α
 |[],[],k=>k []
 |sl::sls,a::as,k=>H5 sl a fun l=>f9 sls as fun ls=>k (l::ls)
 |_,_,_=>.fail
def gz {α:Type}(r:Nat):Nat->Nat->(ax->Rd α)->Rd α
 |_,0,k=>k []
 | j,m+1,k=>ig r j fun h=>match h.c with
   | .own l=>gz r (j+1) m fun ls=>k (l::ls)
   | .ro l=>gz r (j+1) m fun ls=>k (l::ls)
   | .gone=>.fail
def gJ {α:Type}:List HQ->(ab->Rd α)->Rd α
 |[],k=>k []
 | .pt r j::cs,k=>.get (.meta_ r) fun
   |some (.m n true)=>if j<n then gz r j (n-j) fun rec=>gJ cs fun rs=>k (rec::rs)else .fail
   |_=>.fail
 | .rp rec j::cs,k=>if j<rec.length then gJ cs fun rs=>k (rec.drop j::rs)else .fail
def Kq (P:Program)(t:TypeId):Option TI:=match P.underlying t with
 |some (.pointer e)=>oO P e
 |_=>none
def LZ {α:Type}(ti:Option TI)(x:Operand)(k:DV->Rd α):Rd α:=
 gT x fun
  | .pt r j=>match ti with
    |some ti=>if 0<ti.zero.length then gz r j ti.zero.length fun rec=>k (.ptr rec)else .fail
    |none=>.fail
  | .rp rec j=>match ti with
    |some ti=>if 0<ti.zero.length/\j+ti.zero.length<=rec.length then k (.ptr ((rec.drop j).take ti.zero.length))else .fail
    |none=>.fail
  | .fn f caps=>gJ caps fun recs=>k (.fn f recs)
  |_=>.fail
def H3 {α:Type}(P:Program)(t:TypeId)(x:Operand)(k:DV->Rd α):Rd α:=
 match oO P t with
 |none=>LZ (Kq P t) x k
 | some ti=>ev x fun val=>match val with
   | .one a=>if ti.agg then .fail else f9 ti.slots [a] fun ls=>match ls with
     |[l]=>k (.one l)
     |_=>.fail
   | .agg as=>if ti.agg then f9 ti.slots as fun ls=>k (.agg ls)else .fail
   | .tup _=>.fail
def tH {α:Type}(P:Program):List TypeId->List Operand->(List DV->Rd α)->Rd α
 |[],[],k=>k []
 |t::ts,x::xs,k=>H3 P t x fun d=>tH P ts xs fun ds=>k (d::ds)
 |_,_,_=>.fail
def er (d:Nat):Nat->ax->List A
 |_,[]=>[]
 |j,.v x::ls=>.v x::er d (j+1) ls
 |j,.s _ es::ls=>.vw d j 0 0 es.length::er d (j+1) ls
 |j,.g::ls=>.un::er d (j+1) ls
 |j,.m _ _::ls=>.un::er d (j+1) ls
def G5 (d j:Nat):DV->R
 | .one l=>match er d j [l]with
   |[a]=>.one a
   |_=>.agg []
 | .agg ls=>.agg (er d j ls)
 |_=>.agg []
def aR:DV->ax
 | .one l=>[l]
 | .agg ls=>ls
 |_=>[]
def mQ (d:Nat):Nat->List DV->List R
 |_,[]=>[]
 |j,r::rs=>G5 d j r::mQ d (j+(aR r).length) rs
def jc (d:Nat)(res:List DV):R:=match res with
 |[r]=>G5 d 0 r
 |rs=>.tup (mQ d 0 rs)
def dT (d:Nat)(res:List DV):List W:=
 [.root d false ((res.flatMap aR).map fun l=>⟨0,0,none,.own l⟩),.reg d (jc d res)]
def eh (P:Program)(f:FuncId):Bool:=match P.funcs[f]? with
 |some fn=>fn.body.isSome&&fn.name != "runtime.NumGoroutine"
 |none=>false
def D7 (P:Program)(n:Nat)(d:Option Tmp)(f:FuncId)(ts:Array TypeId)(args:Array Operand):Rd Out:=
 if eh P f then tH P ts.toList args.toList fun ds=>fresh n d fun d=>.ret (.call f ds (dT d))else .fail
def rl {α:Type}:List Operand->(List Value->Rd α)->Rd α
 |[],k=>k []
 | x::xs,k=>gT x fun
   | .v v=>rl xs fun vs=>k (v::vs)
   |_=>.fail
def Gp {α:Type}:List Operand->(List HQ->Rd α)->Rd α
 |[],k=>k []
 | x::xs,k=>gT x fun
   | .pt r j=>Gp xs fun cs=>k (.pt r j::cs)
   | .rp rec j=>Gp xs fun cs=>k (.rp rec j::cs)
   |_=>.fail
def vop (P:Program)(n:Nat)(o:Oper):Rd Out:=
 match o.op with
 | .move x=>ev x fun r=>bE n o.dst r
 | .assign x=>ev x fun r=>
   match x,r,o.dst with
   | .tmp t,.one (.vw r0 j ver lo m),some d=>
     if r0=t/\r0≠d/\d<n then .get (.meta_ r0) fun
      | some (.m 1 false)=>ig r0 j fun h=>match h.c,h.org with
        | .own (.s sz es),none=>if h.ver==ver then .req (lo=0/\m=es.length) (.get (.meta_ d) fun
          |none=>.ret (.ws ([.leaf r0 j ⟨h.ver+1,h.iv,none,.gone⟩]++ownRow d sz es))
          |some (.m 1 false)=>ig d 0 fun h2=>.ret (.ws [.leaf r0 j ⟨h.ver+1,h.iv,none,.gone⟩,.leaf d 0 ⟨h2.ver+1,h2.iv+1,none,.own (.s sz es)⟩,.reg d (.one (.vw d 0 (h2.ver+1) 0 es.length))])
          |_=>.fail)else .fail
        |_,_=>.fail
      |_=>.fail
     else bE n o.dst r
   |_,_,_=>bE n o.dst r
 | .pick c a b=>ES c fun c=>gT a fun a=>gT b fun b=>match a,b with
   | .v x,.v y=>match x,y with
     | .bool x,.bool y=>bE n o.dst (.k (bif c then x else y))
     | .tuple _,.bool y=>.br c .fail (bE n o.dst (.k y))
     | .bool x,.tuple _=>.br c (bE n o.dst (.k x)) .fail
     |_,_=>.fail
   |_,_=>.fail
 | .alloc t=>B0 P n o.dst t
 | .box t x=>OP P n o.dst t x
 | .build t parts=>B7 P n o.dst t parts
 | .buildSlice t len parts=>j7 P n o.dst t len parts
 | .load t x=>Hz P n o.dst t x
 | .store t x y=>match o.dst with
   |none=>Cf P t x y
   |some _=>.fail
 | .fieldAddr s x f=>mV P n o.dst s x f
 | .indexAddr t x i=>mW P n o.dst t x i
 | .nilCheck x=>gT x fun a=>match a with
   | .pt _ _=>bE n o.dst (.one a)
   | .rp _ _=>bE n o.dst (.one a)
   |_=>.fail
 | .binOp op t x y _=>Lq P n o.dst op t x y
 | .unOp op _ x=>vUn n o.dst op x
 | .convert src dst x=>k8 x fun _ a=>match MS P src,MS P dst with
   |some _,some k=>bE n o.dst (.one (.v (.int k (k.wrap a))))
   |_,_=>.fail
 | .makeSlice t l c=>HC P n o.dst t l c
 | .slice t x lo hi mx=>Ce P n o.dst t x lo hi mx
 | .makeFunc fn first captured=>match fn,first.toList with
   | .func f,[]=>Gp captured.toList fun cs=>bE n o.dst (.one (.fn f cs))
   |_,_=>.fail
 | .extract x i=>ev x fun r=>match r with
   | .tup rs=>match rs[i]? with
     |some r=>bE n o.dst r
     |none=>.fail
   |_=>.fail
 | .call c=>match c.callee with
   | .builtin .len=>match c.args.toList,c.argTypes.toList with
     |[x],[t]=>if rt P t then gT x fun a=>Qj a fun m=>bE n o.dst (.j m)else .fail
     |_,_=>.fail
   | .builtin .append=>match c.args.toList,c.argTypes.toList with
     |[s,x],[t,t']=>nJ P n o.dst t t' s x
     |_,_=>.fail
   | .builtin .min=>rl c.args.toList fun vs=>match wm false vs with
     |some v=>bE n o.dst (.one (.v v))
     |none=>.fail
   | .builtin .max=>rl c.args.toList fun vs=>match wm true vs with
     |some v=>bE n o.dst (.one (.v v))
     |none=>.fail
   | .value (.func f)=>D7 P n o.dst f c.argTypes c.args
   |_=>.fail
 |_=>.fail
end Go.V
namespace Go.V
open Go.MapKept (Stamped)
inductive Tok where
 |box (r:Nat)
 |leaf (r j:Nat)
 |ro
 |fz
structure Gh where
 loc:Nat->Option (Nat×Nat)
 val:Nat->Nat->Value
 fp:Nat->Nat->List Nat
 ow:Nat->Option Tok
 lead:Nat->Nat
structure Cx where
 n:Nat
 w0:World
 fr:Nat->Prop
 anc:Nat->Value
 aloc:Nat->Option (Nat×Nat)
 alen:Nat->Nat
 ro:Nat->Prop
def d9 (hv:Value)(sz lo n:Nat)(v:Value):Prop:=
 ∃ base len cap base' cap',hv=.slice base len cap/\v=.slice base' n cap'/\n<=cap'/\cap'<=cap/\(lo=0->n=len->v=hv)/\
  ((cap=0/\cap'=0)\/∃ b off off',base=some ⟨b,off,none⟩/\base'=some ⟨b,off',none⟩/\off'+cap'*sz<=off+cap*sz/\(0<n->off'=off+lo*sz))
def bP (w:World):L->Value->List (Nat×Nat)->Nat->Nat->Prop
 | .s sz es,hv,(i,j)::p,b,o=>∃ b1 off len cap,hv=.slice (some ⟨b1,off,none⟩) len cap/\i<es.length/\
    match p with
    |[]=>b=b1/\o=off+i*sz+j
    |q::p=>∃ l' v',((es[i]?).bind (·[j]?))=some l'/\w.cell? ⟨b1,off+i*sz+j,none⟩=some v'/\bP w l' v' (q::p) b o
 |_,_,_,_,_=>False
def Pd (w:World)(r bm:Nat)(kb:Bool)(es:ab)(vs:List Int):Prop:=
 ∃ (since c0 clock:Nat) (seen:Array Nat) (ents:Array MapEntry),w.heap[r]?=some (.mapIter (some bm) since seen c0)/\w.heap[bm]?=some (.map ents clock)/\Stamped ents clock/\eW kb ents.toList es/\
  (∀ x∈ents.toList,x.born<since)/\since<=c0/\since<=clock/\(∀ x∈ents.toList,seen.contains x.born=true->∃ k∈vs,x.key=.int Za k)/\
  (leftOf ents seen).size+vs.length<=es.length/\(∀ k vs',vs=k::vs'->∃ e∈ents.toList,∃ seen':Array Nat,seen=seen'.push e.born/\e.key=.int Za k/\c0=clock)
def Pd.keep {w w':World}{r bm:Nat}{kb:Bool}{es:ab}{vs:List Int}(h:Pd w r bm kb es vs)(h1:w'.heap[r]?=w.heap[r]?)(h2:w'.heap[bm]?=w.heap[bm]?):Pd w' r bm kb es vs:=by
 obtain⟨since,c0,clock,seen,ents,e1,e2,e3⟩:=h;exact⟨since,c0,clock,seen,ents,by rw[h1];exact e1,by rw[h2];exact e2,e3⟩
def F7 (G:Gh)(w:World):HQ->Value->Prop
 | .pt r j,v=>∃ b off,G.loc r=some (b,off)/\v=.pointer (some ⟨b,off+j,none⟩)
 | .rp rec j,v=>∃ b off cur ty fz S,v=.pointer (some ⟨b,off+j,none⟩)/\w.heap[b]?=some (.cells cur ty fz)/\G.ow b=some .ro/\off+rec.length<=cur.size/\
    ak w rec ((cur.toList.drop off).take rec.length) S/\∀ b∈S,G.ow b=some .ro
def fe (G:Gh)(w:World):List HQ->List Value->Prop
 |[],vs=>vs=[]
 |c::cs,vs=>∃ v vs',vs=v::vs'/\F7 G w c v/\fe G w cs vs'
def iC (γ:Nat->Nat->Option Hv)(G:Gh)(w:World):A->Value->Prop
 | .v x,v=>v=x
 | .nl,v=>v=.slice none 0 0
 | .ro sz es,v=>∃ S,bN w (.s sz es) v S/\∀ b∈S,G.ow b=some .ro
 | .rp rec j,v=>∃ b off cur ty fz S,v=.pointer (some ⟨b,off+j,none⟩)/\w.heap[b]?=some (.cells cur ty fz)/\G.ow b=some .ro/\off+rec.length<=cur.size/\
    ak w rec ((cur.toList.drop off).take rec.length) S/\∀ b∈S,G.ow b=some .ro
 | .pt r j,v=>∃ b off,G.loc r=some (b,off)/\v=.pointer (some ⟨b,off+j,none⟩)
 | .pn r j ver iv p,v=>∃ h,γ r j=some h/\ver<=h.ver/\iv<=h.iv/\p≠[]/\(C0 h ver iv p=true->∀ l,h.c=.own l->∃ b o,bP w l (G.val r j) p b o/\v=.pointer (some ⟨b,o,none⟩))
 | .vw r j ver lo n,v=>∃ h,γ r j=some h/\ver<=h.ver/\(h.ver=ver->∀ sz es,h.c=.own (.s sz es)->lo+n<=es.length/\d9 (G.val r j) sz lo n v)
 | .vn r j ver iv p lo n,v=>∃ h,γ r j=some h/\ver<=h.ver/\iv<=h.iv/\p≠[]/\(jm h ver iv=true->∀ l rec o sz es,h.c=.own l->bT l p=some (rec,o)->rec[o]?=some (.s sz es)->
    ∃ b oo hv,bP w l (G.val r j) p b oo/\w.cell? ⟨b,oo,none⟩=some hv/\lo+n<=es.length/\d9 hv sz lo n v)
 | .fn f caps,v=>∃ ps,v=.func (.func f) #[] ps.toArray/\fe G w caps ps
 | .mv r j ver,v=>∃ h,γ r j=some h/\ver<=h.ver/\(h.ver=ver->∀ kb es,h.c=.own (.m kb es)->v=G.val r j)
 | .st r j ver iv k,v=>∃ h,γ r j=some h/\ver<=h.ver/\iv<=h.iv/\(jm h ver iv=true->∀ kb es,h.c=.own (.m kb es)->∃ (b:Nat) (ents:Array MapEntry) (clock i:Nat) (e:MapEntry),G.val r j=.map (some b)/\w.heap[b]?=some (.map ents clock)/\ents[i]?=some e/\e.key=.int Za k/\v=goInt e.born)
 | .it es vs,v=>∃ r bm kb,v=.pointer (some ⟨r,0,none⟩)/\G.ow r=some .fz/\G.ow bm=some .fz/\Pd w r bm kb es vs
 | .un,_=>True
def bX (γ:Nat->Nat->Option Hv)(G:Gh)(w:World):List A->List Value->Prop
 |[],vs=>vs=[]
 |a::as,vs=>∃ v vs',vs=v::vs'/\iC γ G w a v/\bX γ G w as vs'
mutual
def cW (γ:Nat->Nat->Option Hv)(G:Gh)(w:World):R->Value->Prop
 | .one a,v=>iC γ G w a v
 | .agg as,v=>∃ vs:List Value,v=.agg vs.toArray/\bX γ G w as vs
 | .tup rs,v=>∃ vs:List Value,v=.tuple vs.toArray/\jo γ G w rs vs
def jo (γ:Nat->Nat->Option Hv)(G:Gh)(w:World):List R->List Value->Prop
 |[],vs=>vs=[]
 |r::rs,vs=>∃ v vs',vs=v::vs'/\cW γ G w r v/\jo γ G w rs vs'
end
def gl (g:Gm)(r j:Nat):Option Hv:=match g (.leaf r j)with
 |some (.h h)=>some h
 |_=>none
def ew (G:Gh)(w:World)(r j:Nat)(h:Hv):Prop:=
 match h.c with
 | .own l=>bN w l (G.val r j) (G.fp r j)/\(G.fp r j).Nodup/\∀ b∈G.fp r j,G.ow b=some (.leaf r j)/\eV w b
 | .ro l=>∃ S,bN w l (G.val r j) S/\∀ b∈S,G.ow b=some .ro
 | .gone=>True
def fg (cx:Cx)(_:H)(og:Option Nat)(v:Value):Prop:=∀ i,og=some i->v=cx.anc i
def fg.none {cx:Cx}{c:H}{v:Value}:fg cx c Xo v:=fun i e=>by cases e
def fg.gone {cx:Cx}{v:Value}:fg cx .gone Xo v:=fun i e=>by cases e
def HZ (cx:Cx):List (H×Option Nat)->List Value->Prop
 |(c,og)::lts,v::vs=>fg cx c og v/\HZ cx lts vs
 |_,_=>True
def Jj (cx:Cx)(b:Nat)(w:World):Prop:=
 ∃ cur0 cur ty,cx.w0.heap[b]?=some (.cells cur0 ty (0,0))/\w.heap[b]?=some (.cells cur ty (0,0))/\cur.size=cur0.size/\
  ∀ i,(∀ r off,cx.aloc r=some (b,off)->i<off\/off+cx.alen r<=i)->cur[i]?=cur0[i]?
def Jj.keep {cx:Cx}{b:Nat}{w w':World}(h:Jj cx b w)(e:w'.heap[b]?=w.heap[b]?):Jj cx b w':=by
 obtain⟨c0,c,ty,h1,h2,h3⟩:=h;exact⟨c0,c,ty,h1,by rw[e];exact h2,h3⟩
structure aO (cx:Cx)(G:Gh)(g:Gm)(a:Act)(w:World):Prop where
 defers:a.defers=[]
 tm:a.tmps.size=cx.n
 reg:∀ d x,g (.reg d)=some x->d<cx.n/\∃ r,x=.r r/\cW (gl g) G w r (a.tmps.getD d undef)
 boxes:∀ r k,g (.meta_ r)=some (.m k true)->∃ b off cur ty,G.loc r=some (b,off)/\G.ow b=some (.box (G.lead r))/\w.heap[b]?=some (.cells cur ty (0,0))/\off+k<=cur.size/\
  ∀ j,j<k->cur[off+j]?=some (G.val r j)
 leaf:∀ r j x,g (.leaf r j)=some x->∃ h k box,x=.h h/\g (.meta_ r)=some (.m k box)/\j<k/\ew G w r j h
 metas:∀ r x,g (.meta_ r)=some x->∃ k box,x=.m k box
 noloc:∀ r b,G.loc r=some b->∃ k,g (.meta_ r)=some (.m k true)
 lt:∀ b t,G.ow b=some t->b<w.heap.size
 frame:Same cx.fr cx.w0 w
 frow:∀ b,b<cx.w0.heap.size->cx.fr b->G.ow b=none\/G.ow b=some .ro
 anc:∀ r j h,gl g r j=some h->fg cx h.c h.org (G.val r j)
 aloc:∀ r x,cx.aloc r=some x->G.loc r=some x/\g (.meta_ r)=some (.m (cx.alen r) true)
 afr:∀ r b off,cx.aloc r=some (b,off)->Jj cx b w
 sep:∀ r1 r2 k1 k2 b o1 o2,r1≠r2->g (.meta_ r1)=some (.m k1 true)->g (.meta_ r2)=some (.m k2 true)->G.loc r1=some (b,o1)->G.loc r2=some (b,o2)->o1+k1<=o2\/o2+k2<=o1
 newb:∀ r b off,G.loc r=some (b,off)->cx.aloc r=none->cx.w0.heap.size<=b
 roX:∀ b,G.ow b=some .ro->cx.ro b
def fC (cx:Cx)(g:Gm)(a:Act)(w:World):Prop:=∃ G,aO cx G g a w
mutual
def bN.keep {w w':World}:∀ (l:L) (v:Value) (S:List Nat),bN w l v S->(∀ b∈S,w'.heap[b]?=w.heap[b]?)->bN w' l v S
 | .v x,v,S,h,_=>by simpa[bN]using h
 | .g,v,S,h,_=>by simpa[bN]using h
 | .m kb es,v,S,h,hk=>by
   simp only[bN]at h ⊢;obtain⟨b,ents,clock,e1,e2,e5,e3,e4⟩:=h;subst e4;exact⟨b,ents,clock,e1,by rw[hk b (by simp),e2],e5,e3,rfl⟩
 | .s sz es,v,S,h,hk=>by
   simp only[bN]at h ⊢;obtain⟨base,len,cap,h1,h2,h3,h4,h5⟩:=h;refine⟨base,len,cap,h1,h2,h3,h4,?_⟩;rcases h5 with h5|⟨b,off,cur,ty,fz,S',e1,e2,e3,e4,e5⟩;exact .inl h5
   ·subst e5;refine .inr ⟨b,off,cur,ty,fz,S',e1,?_,e3,bH.keep sz es _ _ e4 (fun c hc=>hk c (by simp[hc])),rfl⟩;rw[hk b (by simp),e2]
def ak.keep {w w':World}:∀ (ls:ax) (vs:List Value) (S:List Nat),ak w ls vs S->(∀ b∈S,w'.heap[b]?=w.heap[b]?)->ak w' ls vs S
 |[],vs,S,h,_=>by simpa[ak]using h
 | l::ls,vs,S,h,hk=>by
   simp only[ak]at h ⊢;obtain⟨v,vs',S1,S2,e1,h1,h2,e2⟩:=h;subst e2;exact⟨v,vs',S1,S2,e1,bN.keep l v S1 h1 (fun c hc=>hk c (by simp[hc])),ak.keep ls vs' S2 h2 (fun c hc=>hk c (by simp[hc])),rfl⟩
def bH.keep {w w':World}(sz:Nat):∀ (es:ab) (vs:List Value) (S:List Nat),bH w sz es vs S->(∀ b∈S,w'.heap[b]?=w.heap[b]?)->bH w' sz es vs S
 |[],vs,S,h,_=>by simpa[bH]using h
 | e::es,vs,S,h,hk=>by
   simp only[bH]at h ⊢;obtain⟨v1,v2,S1,S2,e1,hl,h1,h2,e2⟩:=h;subst e2;exact⟨v1,v2,S1,S2,e1,hl,ak.keep e v1 S1 h1 (fun c hc=>hk c (by simp[hc])),bH.keep sz es v2 S2 h2 (fun c hc=>hk c (by simp[hc])),rfl⟩
end
mutual
def bN.lt {w:World}:∀ (l:L) (v:Value) (S:List Nat),bN w l v S->∀ b∈S,b<w.heap.size
 | .v x,v,S,h,b,hb=>by simp only[bN]at h;rw[h.2.2]at hb;cases hb
 | .g,v,S,h,b,hb=>by simp only[bN]at h;rw[h.2]at hb;cases hb
 | .m kb es,v,S,h,b,hb=>by
   simp only[bN]at h;obtain⟨b0,ents,clock,e1,e2,e5,e3,e4⟩:=h;subst e4;simp only[Zk,List.not_mem_nil,or_false]at hb;subst hb;exact(ZE.1 e2).1
 | .s sz es,v,S,h,b,hb=>by
   simp only[bN]at h;obtain⟨base,len,cap,h1,h2,h3,h4,h5⟩:=h;rcases h5 with h5|⟨b',off,cur,ty,fz,S',e1,e2,e3,e4,e5⟩
   ·rw[h5.2]at hb;cases hb
   ·subst e5;rcases Zk.1 hb with rfl|hb;exact(ZE.1 e2).1;exact bH.lt sz es _ _ e4 b hb
def ak.lt {w:World}:∀ (ls:ax) (vs:List Value) (S:List Nat),ak w ls vs S->∀ b∈S,b<w.heap.size
 |[],vs,S,h,b,hb=>by simp only[ak]at h;rw[h.2]at hb;cases hb
 | l::ls,vs,S,h,b,hb=>by
   simp only[ak]at h;obtain⟨v,vs',S1,S2,e1,h1,h2,e2⟩:=h;subst e2;rcases Zg.1 hb with hb|hb;exact bN.lt l v S1 h1 b hb;exact ak.lt ls vs' S2 h2 b hb
def bH.lt {w:World}(sz:Nat):∀ (es:ab) (vs:List Value) (S:List Nat),bH w sz es vs S->∀ b∈S,b<w.heap.size
 |[],vs,S,h,b,hb=>by simp only[bH]at h;rw[h.2]at hb;cases hb
 | e::es,vs,S,h,b,hb=>by
   simp only[bH]at h;obtain⟨v1,v2,S1,S2,e1,hl,h1,h2,e2⟩:=h;subst e2;rcases Zg.1 hb with hb|hb;exact ak.lt e v1 S1 h1 b hb;exact bH.lt sz es v2 S2 h2 b hb
end
def ak.length {w:World}:∀ {ls:ax} {vs:List Value} {S:List Nat},ak w ls vs S->vs.length=ls.length
 |[],vs,S,h=>by simp only[ak]at h;simp[h.1]
 | l::ls,vs,S,h=>by
   simp only[ak]at h;obtain⟨v,vs',S1,S2,e1,h1,h2,e2⟩:=h;simp[e1,ak.length h2]
def bH.length {w:World}{sz:Nat}:∀ {es:ab} {vs:List Value} {S:List Nat},bH w sz es vs S->vs.length=es.length*sz
 |[],vs,S,h=>by simp only[bH]at h;simp[h.1]
 | e::es,vs,S,h=>by
   simp only[bH]at h;obtain⟨v1,v2,S1,S2,e1,hl,h1,h2,e2⟩:=h;simp[e1,bH.length h2,hl,Zs,X9]
def bH.at {w:World}{sz:Nat}:∀ {es:ab} {vs:List Value} {S:List Nat},bH w sz es vs S->∀ (i:Nat) (e:ax),es[i]?=some e->
 ∃ Sa S1 Sb,S=Sa++S1++Sb/\e.length=sz/\ak w e ((vs.drop (i*sz)).take sz) S1
 |[],vs,S,h,i,e,he=>by simp at he
 | e0::es,vs,S,h,i,e,he=>by
   simp only[bH]at h;obtain⟨v1,v2,S1,S2,e1,hl,h1,h2,e2⟩:=h;subst e1 e2;cases i with
   | zero=>
     simp at he;subst he;refine⟨[],S1,S2,by simp,by rw[<-h1.length,hl],?_⟩
     simpa[<-hl]using h1
   | succ i=>
     simp at he;obtain⟨Sa,Sm,Sb,e3,e4,e5⟩:=bH.at h2 i e he;refine⟨S1++Sa,Sm,Sb,by simp[e3],e4,?_⟩;have:(v1++v2).drop ((i+1)*sz)=v2.drop (i*sz):=by
      rw[XE,Y1 (by rw[hl,Zs];omega),ZJ,hl,Zs]
      congr 1;omega
     rw[this];exact e5
def ak.at {w:World}:∀ {ls:ax} {vs:List Value} {S:List Nat},ak w ls vs S->∀ (j:Nat) (l:L),ls[j]?=some l->
 ∃ Sa S1 Sb v,S=Sa++S1++Sb/\vs[j]?=some v/\bN w l v S1
 |[],vs,S,h,j,l,hl=>by simp at hl
 | l0::ls,vs,S,h,j,l,hl=>by
   simp only[ak]at h;obtain⟨v,vs',S1,S2,e1,h1,h2,e2⟩:=h;subst e1 e2;cases j with
   |zero=>simp at hl;subst hl;exact⟨[],S1,S2,v,by simp,by simp,h1⟩
   | succ j=>
     simp at hl;obtain⟨Sa,Sm,Sb,v',e3,e4,e5⟩:=ak.at h2 j l hl;exact⟨S1++Sa,Sm,Sb,v',by simp[e3],by simpa using e4,e5⟩
end Go.V
namespace Go.V
def BK {l:List Value}{off m sz i j:Nat}{v:Value}(h:((((l.drop off).take m).drop (i*sz)).take sz)[j]?=some v):l[off+i*sz+j]?=some v:=by
 rw[ZC]at h;by_cases c:j<sz
 ·rw[VE c,Zy,ZC]at h;by_cases c2:i*sz+j<m
  ·rw[VE c2,Zy]at h;rw[<-h];congr 1;omega
  ·rw[VF c2]at h;cases h
 ·rw[VF c]at h;cases h
def gh {w:World}{b:Nat}{cur:Array Value}{ty:TypeId}{fz:Nat×Nat}(h:w.heap[b]?=some (.cells cur ty fz))(o:Nat):w.cell? ⟨b,o,none⟩=cur[o]?:=by simp[World.cell?,h]
def bP.keep {w w':World}:∀ (p:List (Nat×Nat)) (l:L) (hv:Value) (S:List Nat) (b o:Nat),bN w l hv S->bP w l hv p b o->(∀ c∈S,w'.heap[c]?=w.heap[c]?)->bP w' l hv p b o
 |[],l,hv,S,b,o,_,h,_=>by cases l<;>simp[bP]at h
 | (i,j)::p,l,hv,S,b,o,hr,h,hk=>by
  cases l with
  |v x=>simp[bP]at h
  |g=>simp[bP]at h
  |m _ _=>simp[bP]at h
  | s sz es=>
    cases p with
    |nil=>simpa[bP]using h
    | cons q p=>
      simp only[bP]at h ⊢;obtain⟨b1,off,len,cap,e1,hi,l',v',e2,e3,h4⟩:=h;refine⟨b1,off,len,cap,e1,hi,l',v',e2,?_,?_⟩
      ·simp only[bN]at hr;obtain⟨base,len',cap',f1,f2,f3,f4,f5⟩:=hr;rw[e1]at f1;cases f1;rcases f5 with f5|⟨b',off',cur,ty,fz,S',g1,g2,g3,g4,g5⟩
       ·exfalso;have:=f5.1;omega
       ·cases g1;rw[WI (w:=w) (hk b1 (by simp[g5]))];exact e3
      ·simp only[bN]at hr;obtain⟨base,len',cap',f1,f2,f3,f4,f5⟩:=hr;rw[e1]at f1;cases f1;rcases f5 with f5|⟨b',off',cur,ty,fz,S',g1,g2,g3,g4,g5⟩
       ·exfalso;have:=f5.1;omega
       ·cases g1;cases hes:es[i]? with
        |none=>simp[hes]at e2
        | some rec=>
          simp only[hes,YC]at e2;obtain⟨Sa,S1,Sb,k1,k2,k3⟩:=g4.at i rec hes;obtain⟨Ta,T1,Tb,v'',k4,k5,k6⟩:=k3.at j l' e2;have hv'':v''=v':=by
           have:=BK k5;rw[gh g2, <-Z1,this]at e3;exact YA e3
          subst hv'';exact bP.keep (q::p) l' v'' T1 b o k6 h4 (fun c hc=>hk c (by rw[g5,k1,k4];simp[hc]))
def aab (c c':H):Prop:=(∃ sz es es',c=.own (.s sz es)/\c'=.own (.s sz es')/\es'.length=es.length)\/∃ kb es es',c=.own (.m kb es)/\c'=.own (.m kb es')
structure Step (g:Gm)(G:Gh)(w:World)(g':Gm)(G':Gh)(w':World):Prop where
 leaf:∀ r j h,gl g r j=some h->∃ h',gl g' r j=some h'/\
  ((h'=h/\G'.val r j=G.val r j/\∀ l,h.c=.own l->∀ b∈G.fp r j,w'.heap[b]?=w.heap[b]?)\/
   (h'.ver=h.ver/\h.iv<h'.iv/\G'.val r j=G.val r j/\aab h.c h'.c)\/
   (h.ver<h'.ver/\h.iv<=h'.iv))
 ro:∀ b,G.ow b=some .ro->G'.ow b=some .ro/\w'.heap[b]?=w.heap[b]?
 fz:∀ b,G.ow b=some .fz->G'.ow b=some .fz/\w'.heap[b]?=w.heap[b]?
 loc:∀ r x,G.loc r=some x->G'.loc r=some x
def rq {h:Hv}{ver iv:Nat}{p:List (Nat×Nat)}:C0 h ver iv p=true↔h.ver=ver/\(p.length=1\/h.iv=iv):=by simp[C0]
def rX {h:Hv}{ver iv:Nat}:jm h ver iv=true↔h.ver=ver/\h.iv=iv:=by simp[jm]
def F7.step {g:Gm}{G:Gh}{w:World}{g':Gm}{G':Gh}{w':World}(hs:Step g G w g' G' w'):∀ (y:HQ) (v:Value),F7 G w y v->F7 G' w' y v
 | .rp rec j,v,h=>by
   obtain⟨b,off,cur,ty,fz,S,e1,e2,e3,e4,e5,e6⟩:=h;exact⟨b,off,cur,ty,fz,S,e1,by rw[(hs.ro b e3).2,e2],(hs.ro b e3).1,e4,ak.keep _ _ _ e5 (fun c hc=>(hs.ro c (e6 c hc)).2),fun c hc=>(hs.ro c (e6 c hc)).1⟩
 | .pt r j,v,h=>by
   obtain⟨b,off,e1,e2⟩:=h;exact⟨b,off,hs.loc _ _ e1,e2⟩
def fe.step {g:Gm}{G:Gh}{w:World}{g':Gm}{G':Gh}{w':World}(hs:Step g G w g' G' w'):∀ (y:List HQ) (v:List Value),fe G w y v->fe G' w' y v
 |[],v,h=>h
 | c::cs,v,h=>by
   obtain⟨u,us,e,h1,h2⟩:=h;exact⟨u,us,e,F7.step hs c u h1,fe.step hs cs us h2⟩
def iC.step {cx:Cx}{g:Gm}{G:Gh}{a:Act}{w:World}(hS:aO cx G g a w){g':Gm}{G':Gh}{w':World}(hs:Step g G w g' G' w'):
 ∀ (y:A) (v:Value),iC (gl g) G w y v->iC (gl g') G' w' y v:=by
 have hok:∀ r j h,gl g r j=some h->ew G w r j h:=by
  intro r j h hh;unfold gl at hh;split at hh
  ·rename_i h' he;cases hh;obtain⟨h2,k,box,e1,e2,e3,e4⟩:=hS.leaf r j _ he;cases e1;exact e4
  ·cases hh
 intro y v h;cases y with
 |v y=>exact h
 |nl=>exact h
 | ro sz es=>
   obtain⟨S,h1,h2⟩:=h;exact⟨S,bN.keep _ _ _ h1 (fun b hb=>(hs.ro b (h2 b hb)).2),fun b hb=>(hs.ro b (h2 b hb)).1⟩
 | rp rec j=>
   obtain⟨b,off,cur,ty,fz,S,e1,e2,e3,e4,e5,e6⟩:=h;exact⟨b,off,cur,ty,fz,S,e1,by rw[(hs.ro b e3).2,e2],(hs.ro b e3).1,e4,ak.keep _ _ _ e5 (fun c hc=>(hs.ro c (e6 c hc)).2),fun c hc=>(hs.ro c (e6 c hc)).1⟩
 | pt r j=>
   obtain⟨b,off,e1,e2⟩:=h;exact⟨b,off,hs.loc _ _ e1,e2⟩
 |fn f caps=>obtain⟨ps,e,h⟩:=h;exact⟨ps,e,fe.step hs _ _ h⟩
 |un=>trivial
 | it es vs=>
   obtain⟨r,bm,kb,e1,e2,e3,e4⟩:=h;exact⟨r,bm,kb,e1,(hs.fz r e2).1,(hs.fz bm e3).1,e4.keep (hs.fz r e2).2 (hs.fz bm e3).2⟩
 | pn r j ver iv p=>
   obtain⟨h0,e1,e2,e3,e4,e5⟩:=h;obtain⟨h',f1,f2⟩:=hs.leaf r j h0 e1;refine⟨h',f1,?_,?_,e4,?_⟩
   ·rcases f2 with⟨rfl,_⟩|⟨k,_⟩|⟨k,_⟩<;>omega
   ·rcases f2 with⟨rfl,_⟩|⟨_,k,_⟩|⟨_,k⟩<;>omega
   ·intro hg l hl;rw[rq]at hg;rcases f2 with⟨rfl,k1,k2⟩|⟨k1,k2,k3,⟨sz,es,es',k4,k5,k6⟩|⟨kb,es,es',k4,k5⟩⟩|⟨k1,k2⟩
    ·obtain⟨b,o,m1,m2⟩:=e5 (rq.2 hg) l hl;have:=hok r j _ e1;simp only[ew,hl]at this;rw[k1];exact⟨b,o,bP.keep p l _ _ b o this.1 m1 (k2 l hl),m2⟩
    ·have hp:p.length=1:=by have:=hg.2;omega
     obtain⟨b,o,m1,m2⟩:=e5 (rq.2 ⟨Uc,.inl hp⟩) _ k4;refine⟨b,o,?_,m2⟩;rw[k5]at hl;cases hl;rw[k3]
     match p,hp with
     | [(i,j')],_=>
       simp only[bP]at m1 ⊢;rw[k6];exact m1
    ·have hp:p.length=1:=by have:=hg.2;omega
     obtain⟨b,o,m1,m2⟩:=e5 (rq.2 ⟨Uc,.inl hp⟩) _ k4;cases p<;>simp[bP]at m1
    ·omega
 | vw r j ver lo n=>
   obtain⟨h0,e1,e2,e3⟩:=h;obtain⟨h',f1,f2⟩:=hs.leaf r j h0 e1;refine⟨h',f1,?_,?_⟩
   ·rcases f2 with⟨rfl,_⟩|⟨k,_⟩|⟨k,_⟩<;>omega
   ·intro hv sz es hc;rcases f2 with⟨rfl,k1,k2⟩|⟨k1,k2,k3,⟨sz',es0,es',k4,k5,k6⟩|⟨kb0,es0,es',k4,k5⟩⟩|⟨k1,k2⟩
    ·rw[k1];exact e3 hv sz es hc
    ·rw[k5]at hc;cases hc;obtain⟨m1,m2⟩:=e3 Uc _ _ k4;rw[k3,k6];exact⟨m1,m2⟩
    ·rw[k5]at hc;cases hc
    ·omega
 | mv r j ver=>
   obtain⟨h0,e1,e2,e3⟩:=h;obtain⟨h',f1,f2⟩:=hs.leaf r j h0 e1;refine⟨h',f1,?_,?_⟩
   ·rcases f2 with⟨rfl,_⟩|⟨k,_⟩|⟨k,_⟩<;>omega
   ·intro hv kb es hc;rcases f2 with⟨rfl,k1,k2⟩|⟨k1,k2,k3,k4⟩|⟨k1,k2⟩
    ·rw[k1];exact e3 hv kb es hc
    ·rcases k4 with⟨sz',es0,es',k4,k5,k6⟩|⟨kb0,es0,es',k4,k5⟩
     ·rw[k5]at hc;cases hc
     ·rw[k3];exact e3 Uc _ _ k4
    ·omega
 | st r j ver iv k=>
   obtain⟨h0,e1,e2,e4,e3⟩:=h;obtain⟨h',f1,f2⟩:=hs.leaf r j h0 e1;refine⟨h',f1,?_,?_,?_⟩
   ·rcases f2 with⟨rfl,_⟩|⟨k,_⟩|⟨k,_⟩<;>omega
   ·rcases f2 with⟨rfl,_⟩|⟨_,k,_⟩|⟨_,k⟩<;>omega
   ·intro hv kb es hc;rw[rX]at hv;rcases f2 with⟨rfl,k1,k2⟩|⟨k1,k2,k3,k4⟩|⟨k1,k2⟩
    ·rw[k1];obtain⟨b,ents,clock,i,e,q1,q2,q3⟩:=e3 (rX.2 hv) kb es hc;have hh:=hok r j _ e1;simp only[ew,hc,bN]at hh;obtain⟨⟨b',_,_,g1,_,_,_,g5⟩,_⟩:=hh;rw[q1]at g1;cases g1;exact⟨b,ents,clock,i,e,q1,by rw[k2 _ hc b (by rw[g5];simp)];exact q2,q3⟩
    ·omega
    ·omega
 | vn r j ver iv p lo n=>
   obtain⟨h0,e1,e2,e3,e4,e5⟩:=h;obtain⟨h',f1,f2⟩:=hs.leaf r j h0 e1;refine⟨h',f1,?_,?_,e4,?_⟩
   ·rcases f2 with⟨rfl,_⟩|⟨k,_⟩|⟨k,_⟩<;>omega
   ·rcases f2 with⟨rfl,_⟩|⟨_,k,_⟩|⟨_,k⟩<;>omega
   ·intro hg l rec o sz es hl hgr hrec;rw[rX]at hg;rcases f2 with⟨rfl,k1,k2⟩|⟨k1,k2,k3,k4⟩|⟨k1,k2⟩
    ·obtain⟨b,oo,hv,m1,m2,m3,m4⟩:=e5 (rX.2 hg) l rec o sz es hl hgr hrec;have:=hok r j _ e1;simp only[ew,hl]at this;refine⟨b,oo,hv,by rw[k1];exact bP.keep p l _ _ b oo this.1 m1 (k2 l hl),?_,m3,m4⟩;rw[WI (w:=w)];exact m2
     ·refine k2 l hl b ?_;have key:∀ (p:List (Nat×Nat)) (l:L) (hv:Value) (S:List Nat),bN w l hv S->bP w l hv p b oo->b∈S:=by
       intro p
       induction p with
       |nil=>intro l hv S _ h;cases l<;>simp[bP]at h
       | cons x p ih=>
         obtain⟨i,j⟩:=x;intro l hv S hr h;cases l with
         |v x=>simp[bP]at h
         |g=>simp[bP]at h
         |m _ _=>simp[bP]at h
         | s sz es=>
           simp only[bN]at hr;obtain⟨base,len',cap',q1,q2,q3,q4,q5⟩:=hr;cases p with
           | nil=>
             simp only[bP]at h;obtain⟨b1,off,len,cap,y1,y2,y4,y5⟩:=h;rw[y1]at q1;cases q1;rcases q5 with q5|⟨b',off',cur,ty,fz,S',g1,g2,g3,g4,g5⟩
             ·exfalso;have:=q5.1;omega
             ·cases g1;rw[g5,y4];simp
           | cons q p=>
             simp only[bP]at h;obtain⟨b1,off,len,cap,y1,y2,l',v',y4,y5,y6⟩:=h;rw[y1]at q1;cases q1;rcases q5 with q5|⟨b',off',cur,ty,fz,S',g1,g2,g3,g4,g5⟩
             ·exfalso;have:=q5.1;omega
             ·cases g1;cases hes:es[i]? with
              |none=>simp[hes]at y4
              | some rec=>
                simp only[hes,YC]at y4;obtain⟨Sa,S1,Sb,z1,z2,z3⟩:=g4.at i rec hes;obtain⟨Ta,T1,Tb,v'',z4,z5,z6⟩:=z3.at j l' y4;have hv'':v''=v':=by
                 have:=BK z5;rw[gh g2, <-Z1,this]at y5;exact YA y5
                subst hv'';have:=ih l' v'' T1 z6 y6;rw[g5,z1,z4];simp[this]
      exact key p l _ _ this.1 m1
    ·omega
    ·omega
def bX.step {cx:Cx}{g:Gm}{G:Gh}{a:Act}{w:World}(hS:aO cx G g a w){g':Gm}{G':Gh}{w':World}(hs:Step g G w g' G' w'):
 ∀ (xs:List A) (vs:List Value),bX (gl g) G w xs vs->bX (gl g') G' w' xs vs
 |[],vs,h=>h
 | x::xs,vs,h=>by
   obtain⟨v,vs',e,h1,h2⟩:=h;exact⟨v,vs',e,iC.step hS hs x v h1,bX.step hS hs xs vs' h2⟩
mutual
def cW.step {cx:Cx}{g:Gm}{G:Gh}{a:Act}{w:World}(hS:aO cx G g a w){g':Gm}{G':Gh}{w':World}(hs:Step g G w g' G' w'):
 ∀ (y:R) (v:Value),cW (gl g) G w y v->cW (gl g') G' w' y v
 | .one x,v,h=>by simp only[cW]at h ⊢;exact iC.step hS hs x v h
 | .agg xs,v,h=>by
   simp only[cW]at h ⊢;obtain⟨vs,e,h⟩:=h;exact⟨vs,e,bX.step hS hs xs vs h⟩
 | .tup xs,v,h=>by
   simp only[cW]at h ⊢;obtain⟨vs,e,h⟩:=h;exact⟨vs,e,jo.step hS hs xs vs h⟩
def jo.step {cx:Cx}{g:Gm}{G:Gh}{a:Act}{w:World}(hS:aO cx G g a w){g':Gm}{G':Gh}{w':World}(hs:Step g G w g' G' w'):
 ∀ (xs:List R) (vs:List Value),jo (gl g) G w xs vs->jo (gl g') G' w' xs vs
 |[],vs,h=>by simpa only[jo]using h
 | x::xs,vs,h=>by
   simp only[jo]at h ⊢;obtain⟨v,vs',e,h1,h2⟩:=h;exact⟨v,vs',e,cW.step hS hs x v h1,jo.step hS hs xs vs' h2⟩
end
def Step.same {g g':Gm}{G:Gh}{w:World}(h:∀ r j,g' (.leaf r j)=g (.leaf r j)):Step g G w g' G w:=
 ⟨fun r j x hx=>⟨x,by unfold gl at*;rw[h];exact hx,.inl ⟨rfl,rfl,fun _ _ _ _=>rfl⟩⟩,fun _ h=>⟨h,rfl⟩,fun _ h=>⟨h,rfl⟩,fun _ _ h=>h⟩
def GD {a:Act}{d e:Nat}{v:Value}(h:d<a.tmps.size):(a.put (some d) v).tmps.getD e undef=if e=d then v else a.tmps.getD e undef:=by
 unfold YK;simp only[Array.getD_eq_getD_getElem?];rw[Array.getElem?_setIfInBounds];by_cases hd:d=e
 ·subst hd;simp[h]
 ·rw[VF hd,VF (Ne.symm hd)]
def aO.put {cx:Cx}{g:Gm}{G:Gh}{a:Act}{w:World}(hS:aO cx G g a w){d:Nat}{x:R}{v:Value}(hd:d<cx.n)(hx:cW (gl g) G w x v):
 aO cx G ((W.reg d x).app g) (a.put (some d) v) w:=by
 have hl:∀ r j,(W.reg d x).app g (.leaf r j)=g (.leaf r j):=fun r j=>by simp[W.app]
 have hm:∀ r,(W.reg d x).app g (.meta_ r)=g (.meta_ r):=fun r=>by simp[W.app]
 have hgl:gl ((W.reg d x).app g)=gl g:=by funext r j;simp[gl,hl]
 refine⟨hS.defers,by simp[YK,hS.tm],?_,?_,?_,?_,?_,hS.lt,hS.frame,hS.frow,fun r j h e=>hS.anc r j h (by rw[<-hgl];exact e),fun r x e=>by rw[hm];exact hS.aloc r x e,hS.afr,fun r1 r2 k1 k2 b o1 o2 h1 h2 h3=>hS.sep r1 r2 k1 k2 b o1 o2 h1 (by rw[<-hm];exact h2) (by rw[<-hm];exact h3),hS.newb,hS.roX⟩
 ·intro e y he;rw[hgl,GD (by rw[hS.tm];exact hd)];simp only[W.app]at he;split at he
  ·rename_i h;cases h;cases he;rw[VE rfl];exact⟨hd,x,rfl,hx⟩
  ·rename_i h;rw[VF (fun h'=>h (by rw[h']))];exact hS.reg e y he
 ·intro r k hr;rw[hm]at hr;exact hS.boxes r k hr
 ·intro r j y hy;rw[hl]at hy;obtain⟨h,k,box,e1,e2,e3,e4⟩:=hS.leaf r j y hy;exact⟨h,k,box,e1,by rw[hm];exact e2,e3,e4⟩
 ·intro r y hy;rw[hm]at hy;exact hS.metas r y hy
 ·intro r b hb;obtain⟨k,hk⟩:=hS.noloc r b hb;exact⟨k,by rw[hm];exact hk⟩
def sk {cx:Cx}{g:Gm}{G:Gh}{a:Act}{w:World}(hS:aO cx G g a w){α:Type}{d:Nat}{k:R->Rd α}{ls:List Loc}{o:α} 
 (h:(G3 d k).Runs g ls o):∃ r ls',cW (gl g) G w r (a.tmps.getD d undef)/\g (.reg d)=some (.r r)/\(k r).Runs g ls' o:=by
 unfold G3 rd at h;simp only[Rd.Runs]at h;obtain⟨ls',e,h⟩:=h;cases hg:g (.reg d)with
 |none=>simp[hg,Rd.Runs]at h
 | some x=>
   simp only[hg]at h;obtain⟨_,r,rfl,hr⟩:=hS.reg d x hg;exact⟨r,ls',hr,rfl,h⟩
def bB {g:Gm}{α:Type}{r j:Nat}{k:Hv->Rd α}{ls:List Loc}{o:α} 
 (h:(ig r j k).Runs g ls o):∃ x ls',gl g r j=some x/\g (.leaf r j)=some (.h x)/\(k x).Runs g ls' o:=by
 unfold ig rd at h;simp only[Rd.Runs]at h;obtain⟨ls',e,h⟩:=h;cases hg:g (.leaf r j)with
 |none=>simp[hg,Rd.Runs]at h
 | some x=>
   simp only[hg]at h;cases x with
   |h x=>exact⟨x,ls',by simp[gl,hg],rfl,h⟩
   |r x=>simp[Rd.Runs]at h
   |m k box=>simp[Rd.Runs]at h
def Dk (γ:Nat->Nat->Option Hv)(G:Gh)(w:World)(c:Value):iC γ G w (A2 c) c:=by
 unfold A2;split<;>rfl
def dI {cx:Cx}{g:Gm}{G:Gh}{a:Act}{w:World}(hS:aO cx G g a w){α:Type}{x:Operand}{k:R->Rd α}{ls:List Loc}{o:α} 
 (h:(ev x k).Runs g ls o):∃ r ls',cW (gl g) G w r (a.eval x)/\(k r).Runs g ls' o:=by
 cases x with
 |tmp t=>obtain⟨r,ls',h1,_,h2⟩:=sk hS h;exact⟨r,ls',h1,h2⟩
 | const c=>
   refine⟨_,ls,?_,h⟩;show cW (gl g) G w (EL c) c;unfold EL;split
   ·rename_i cs;simp only[cW];refine⟨cs.toList,by simp,?_⟩;have:∀ l:List Value,bX (gl g) G w (l.map A2) l:=by
     intro l
     induction l with
     |nil=>simp[bX]
     |cons v l ih=>exact⟨v,l,rfl,Dk _ _ _ v,ih⟩
    exact this _
   ·simp only[cW];exact Dk _ _ _ _
 |global g=>simp[ev,Rd.Runs]at h
 |func f=>simp[ev,Rd.Runs]at h
def bA {cx:Cx}{g:Gm}{G:Gh}{a:Act}{w:World}(hS:aO cx G g a w){α:Type}{x:Operand}{k:A->Rd α}{ls:List Loc}{o:α} 
 (h:(gT x k).Runs g ls o):∃ r ls',iC (gl g) G w r (a.eval x)/\(k r).Runs g ls' o:=by
 obtain⟨r,ls',h1,h2⟩:=dI hS h;cases r with
 |one b=>simp only[cW]at h1;exact⟨b,ls',h1,h2⟩
 |agg as=>simp[Rd.Runs]at h2
 |tup rs=>simp[Rd.Runs]at h2
def eR {cx:Cx}{g:Gm}{G:Gh}{a:Act}{w:World}(hS:aO cx G g a w){α:Type}{x:Operand}{k:IntKind->Int->Rd α}{ls:List Loc}{o:α} 
 (h:(k8 x k).Runs g ls o):∃ kd n ls',a.eval x=.int kd n/\(k kd n).Runs g ls' o:=by
 obtain⟨r,ls',h1,h2⟩:=bA hS h;cases r with
 | v x=>cases x with
   |int kd n=>exact⟨kd,n,ls',h1,h2⟩
   |_=>simp[Rd.Runs]at h2
 |_=>simp[Rd.Runs]at h2
def uz {cx:Cx}{g:Gm}{G:Gh}{a:Act}{w:World}(hS:aO cx G g a w){α:Type}{x:Operand}{k:Bool->Rd α}{ls:List Loc}{o:α} 
 (h:(ES x k).Runs g ls o):∃ b ls',a.eval x=.bool b/\(k b).Runs g ls' o:=by
 obtain⟨r,ls',h1,h2⟩:=bA hS h;cases r with
 | v x=>cases x with
   |bool b=>exact⟨b,ls',h1,h2⟩
   |_=>simp[Rd.Runs]at h2
 |_=>simp[Rd.Runs]at h2
def aiL (P:Program)(o:Oper)(rd:Rd Out):Prop:=
 ∀ (cx:Cx) (G:Gh) (g:Gm) (a:Act) (w:World) (ls:List Loc) (ws:List W),aO cx G g a w->rd.Runs g ls (.ws ws)->
  ∀ (K:Act->World->Prop) (Q:Exit->Act->World->Prop),(∀ a' w',fC cx (aT g ws) a' w'->K a' w')->o.wp P a w K Q
def dM {P:Program}{o:Oper}{a:Act}{w w':World}{K:Act->World->Prop}{Q:Exit->Act->World->Prop}{v:Value} 
 (hr:(execOp a.eval o).run P w=.ok (.value v) w') (hk:K (a.put o.dst v) w'):o.wp P a w K Q:=by
 unfold Oper.wp;rw[hr];exact hk
def bc {P:Program}{o:Oper}{cx:Cx}{G:Gh}{g:Gm}{a:Act}{w:World}{ls:List Loc}{ws:List W}{x:R}{v:Value}(hS:aO cx G g a w) 
 (h:(bE cx.n o.dst x).Runs g ls (.ws ws)) (hx:cW (gl g) G w x v) (hr:(execOp a.eval o).run P w=.ok (.value v) w)
 {K:Act->World->Prop} {Q:Exit->Act->World->Prop} (hk:∀ a' w',fC cx (aT g ws) a' w'->K a' w'):o.wp P a w K Q:=by
 refine dM hr (hk _ _ ?_);unfold bE at h;cases hd:o.dst with
 | none=>
   simp only[hd,Rd.Runs]at h;obtain⟨_,h⟩:=h;cases h;exact⟨G,by simpa[aT,YK]using hS⟩
 | some d=>
   simp only[hd]at h;split at h
   ·rename_i hlt;simp only[Rd.Runs]at h;obtain⟨_,h⟩:=h;cases h;exact⟨G,by simpa[aT]using hS.put hlt hx⟩
   ·simp[Rd.Runs]at h
end Go.V
namespace Go.V
def av {g:Gm}{r j:Nat}{h:Hv}:gl g r j=some h↔g (.leaf r j)=some (.h h):=by
 unfold gl
 constructor
 ·intro e;split at e
  ·rename_i h' he;cases e;exact he
  ·cases e
 ·intro e;rw[e]
def aO.hok {cx:Cx}{g:Gm}{G:Gh}{a:Act}{w:World}(hS:aO cx G g a w){r j:Nat}{h:Hv}(hh:gl g r j=some h):ew G w r j h:=by
 obtain⟨h2,k,box,e1,e2,e3,e4⟩:=hS.leaf r j _ (av.1 hh);cases e1;exact e4
def aO.gone {cx:Cx}{g:Gm}{G:Gh}{a:Act}{w:World}(hS:aO cx G g a w){r j:Nat}{h:Hv}(hh:g (.leaf r j)=some (.h h)):
 aO cx G ((W.leaf r j ⟨h.ver+1,h.iv,none,.gone⟩).app g) a w:=by
 have hr:∀ d,(W.leaf r j ⟨h.ver+1,h.iv,none,.gone⟩).app g (.reg d)=g (.reg d):=fun d=>by simp[W.app]
 have hm:∀ d,(W.leaf r j ⟨h.ver+1,h.iv,none,.gone⟩).app g (.meta_ d)=g (.meta_ d):=fun d=>by simp[W.app]
 have hl:∀ r' j',(W.leaf r j ⟨h.ver+1,h.iv,none,.gone⟩).app g (.leaf r' j')=if r'=r/\j'=j then some (.h ⟨h.ver+1,h.iv,none,.gone⟩)else g (.leaf r' j'):=fun r' j'=>by simp[W.app]
 have st:Step g G w ((W.leaf r j ⟨h.ver+1,h.iv,none,.gone⟩).app g) G w:=by
  refine⟨fun r' j' h' e=>?_,fun _ h=>⟨h,rfl⟩,fun _ h=>⟨h,rfl⟩,fun _ _ h=>h⟩;by_cases c:r'=r/\j'=j
  ·obtain⟨rfl,rfl⟩:=c;refine⟨⟨h.ver+1,h.iv,none,.gone⟩,av.2 (by rw[hl,VE ⟨rfl,rfl⟩]),.inr (.inr ?_)⟩;rw[av,hh]at e;cases e;simp
  ·exact⟨h',av.2 (by rw[hl,VF c];exact av.1 e),.inl ⟨rfl,rfl,fun _ _ _ _=>rfl⟩⟩
 refine⟨hS.defers,hS.tm,?_,?_,?_,?_,?_,hS.lt,hS.frame,hS.frow,?_,fun r x e=>by rw[hm];exact hS.aloc r x e,hS.afr,fun r1 r2 k1 k2 b o1 o2 h1 h2 h3=>hS.sep r1 r2 k1 k2 b o1 o2 h1 (by rw[<-hm];exact h2) (by rw[<-hm];exact h3),hS.newb,hS.roX⟩
 rotate_left 5
 ·intro r' j' h' e;rw[av,hl]at e;by_cases c:r'=r/\j'=j
  ·rw[VE c]at e;cases e;exact fg.gone
  ·rw[VF c]at e;exact hS.anc r' j' h' (av.2 e)
 ·intro d y hy;rw[hr]at hy;obtain⟨e1,y',e2,e3⟩:=hS.reg d y hy;exact⟨e1,y',e2,cW.step hS st _ _ e3⟩
 ·intro r' k hk;rw[hm]at hk;exact hS.boxes r' k hk
 ·intro r' j' y hy;rw[hl]at hy;by_cases c:r'=r/\j'=j
  ·rw[VE c]at hy;cases hy;obtain⟨rfl,rfl⟩:=c;obtain⟨h2,k,box,e1,e2,e3,e4⟩:=hS.leaf _ _ _ hh;exact⟨_,k,box,rfl,by rw[hm];exact e2,e3,trivial⟩
  ·rw[VF c]at hy;obtain⟨h2,k,box,e1,e2,e3,e4⟩:=hS.leaf _ _ _ hy;exact⟨h2,k,box,e1,by rw[hm];exact e2,e3,e4⟩
 ·intro r' y hy;rw[hm]at hy;exact hS.metas r' y hy
 ·intro r' b hb;obtain⟨k,hk⟩:=hS.noloc r' b hb;exact⟨k,by rw[hm];exact hk⟩
def sX (g:Gm)(G:Gh)(w:World)(b:Nat):Prop:=
 w.heap.size<=b\/∃ r j,G.ow b=some (.leaf r j)/\∀ h l,gl g r j=some h->h.c=.own l->False
def KS (g:Gm)(G:Gh)(w w':World)(h:Hv)(v:Value)(S:List Nat):Prop:=
 match h.c with
 | .own l=>bN w' l v S/\S.Nodup/\∀ b∈S,eV w' b/\sX g G w b
 | .ro l=>S=[]/\∃ S',bN w' l v S'/\∀ b∈S',G.ow b=some .ro
 | .gone=>S=[]
def Same.trans {fr:Nat->Prop}{a b c:World}(h:Same fr a b)(k:Same fr b c):Same fr a c:=
 ⟨k.os.trans h.os,k.tape.trans h.tape,k.output.trans h.output,Z8 h.size k.size,fun x hx hf=>(k.block x (Ym hx h.size) hf).trans (h.block x hx hf)⟩
def Same.refl (fr:Nat->Prop)(a:World):Same fr a a:=⟨rfl,rfl,rfl,Zf _,fun _ _ _=>rfl⟩
open Classical in
def aO.newRoot' {cx:Cx}{g:Gm}{G:Gh}{a:Act}{w:World}(hS:aO cx G g a w){d:Nat}(hd:g (.meta_ d)=none)(box:Bool)(hs:List Hv)(w':World) 
 (hos:w'.os=w.os) (htape:w'.tape=w.tape) (hout:w'.output=w.output) (hsize:w.heap.size<=w'.heap.size)
 (hsame:∀ b,b<w.heap.size->(∀ r j,G.ow b=some (.leaf r j)->∃ h l,gl g r j=some h/\h.c=.own l)->w'.heap[b]?=w.heap[b]?) (nv:Nat->Value) (nf:Nat->List Nat)
 (hnew:∀ j h,hs[j]?=some h->KS g G w w' h (nv j) (nf j)) (horg:∀ j h,hs[j]?=some h->fg cx h.c h.org (nv j))
 (hdis:∀ i j,i<hs.length->j<hs.length->i≠j->∀ b∈nf i,b∉nf j)
 (b0 off:Nat) (hbox:box=true->w.heap.size<=b0/\(∃ cur ty,w'.heap[b0]?=some (.cells cur ty (0,0))/\off+hs.length<=cur.size/\∀ j,j<hs.length->cur[off+j]?=some (nv j))/\∀ j,j<hs.length->b0∉nf j):
 ∃ G',aO cx G' ((W.root d box hs).app g) a w'/\(∀ j,G'.val d j=nv j)/\(box=true->G'.loc d=some (b0,off))/\Step g G w ((W.root d box hs).app g) G' w'/\(∀ b,(box=true->b≠b0)->(∀ j,j<hs.length->b∉nf j)->G'.ow b=G.ow b):=by
 have hbsz:∀ r k b o,g (.meta_ r)=some (.m k true)->G.loc r=some (b,o)->b<w.heap.size:=by
  intro r k b o h1 h2;obtain⟨b',o',cur,ty,f1,f2,f3,_⟩:=hS.boxes r k h1;rw[h2]at f1;cases f1;exact(ZE.1 f3).1
 have hlf:∀ j,g (.leaf d j)=none:=by
  intro j;cases e:g (.leaf d j)with
  |none=>rfl
  |some y=>obtain⟨h,k,bx,e1,e2,_⟩:=hS.leaf d j y e;rw[hd]at e2;cases e2
 have hgd:∀ j,gl g d j=none:=fun j=>by simp[gl,hlf]
 have hloc:G.loc d=none:=by
  cases e:G.loc d with
  |none=>rfl
  |some y=>obtain⟨k,hk⟩:=hS.noloc d y e;rw[hd]at hk;cases hk
 let G':Gh:={
  loc:=fun r=>if r=d then(if box then some (b0,off)else none)else G.loc r
  val:=fun r j=>if r=d then nv j else G.val r j
  fp:=fun r j=>if r=d then nf j else G.fp r j
  ow:=fun b=>if box=true/\b=b0 then some (.box d)else if h:∃ j,j<hs.length/\b∈nf j then some (.leaf d h.choose)else G.ow b
  lead:=fun r=>if r=d then d else G.lead r}
 have hfree:∀ j,j<hs.length->∀ b∈nf j,eV w' b/\sX g G w b:=by
  intro j hj b hb;have hn:=hnew j hs[j] (by simp[hj]);unfold KS at hn;split at hn
  ·exact hn.2.2 b hb
  ·rw[hn.1]at hb;cases hb
  ·rw[hn]at hb;cases hb
 have owb:box=true->G'.ow b0=some (.box d):=fun h=>by simp[G',h]
 have own:∀ j,j<hs.length->∀ b∈nf j,G'.ow b=some (.leaf d j):=by
  intro j hj b hb;have h1:¬ (box=true/\b=b0):=by
   rintro⟨e1,rfl⟩;exact(hbox e1).2.2 j hj hb
  have h2:∃ j,j<hs.length/\b∈nf j:=⟨j,hj,hb⟩;simp only[G',VF h1,dif_pos h2];have:=h2.choose_spec;by_cases e:h2.choose=j
  ·rw[e]
  ·exact absurd hb (hdis _ j this.1 hj e b this.2)
 have owk:∀ b t,G.ow b=some t->(∀ r j,t=.leaf r j->∃ h l,gl g r j=some h/\h.c=.own l)->G'.ow b=some t:=by
  intro b t ht hl;have hb:=hS.lt b t ht;have h1:¬ (box=true/\b=b0):=by
   rintro⟨e1,rfl⟩;have:=(hbox e1).1;omega
  have h2:¬ ∃ j,j<hs.length/\b∈nf j:=by
   rintro⟨j,hj,hbj⟩;rcases(hfree j hj b hbj).2 with h|⟨r,j',e1,e2⟩;omega
   ·rw[e1]at ht;cases ht;obtain⟨h,l,f1,f2⟩:=hl r j' rfl;exact e2 h l f1 f2
  simp only[G',VF h1,dif_neg h2];exact ht
 have hm:∀ r,(W.root d box hs).app g (.meta_ r)=if r=d then some (.m hs.length box)else g (.meta_ r):=fun r=>by simp[W.app]
 have hl:∀ r j,(W.root d box hs).app g (.leaf r j)=if r=d then(hs[j]?).map .h else g (.leaf r j):=fun r j=>by simp[W.app]
 have hr:∀ e,(W.root d box hs).app g (.reg e)=g (.reg e):=fun e=>by simp[W.app]
 have oldt:∀ b t,G.ow b=some t->(∀ r j,t=.leaf r j->∃ h l,gl g r j=some h/\h.c=.own l)->w'.heap[b]?=w.heap[b]?:=fun b t ht hl=>
  hsame b (hS.lt b t ht) (fun r j e=>hl r j (by rw[e]at ht;cases ht;rfl))
 have st:Step g G w ((W.root d box hs).app g) G' w':=by
  refine⟨fun r j h e=>?_,fun b hb=>⟨owk b _ hb (fun r j e=>by cases e),oldt b _ hb (fun r j e=>by cases e)⟩,fun b hb=>⟨owk b _ hb (fun r j e=>by cases e),oldt b _ hb (fun r j e=>by cases e)⟩,fun r y e=>?_⟩
  ·have hrd:r≠d:=by rintro rfl;rw[hgd]at e;cases e
   refine⟨h,av.2 (by rw[hl,VF hrd];exact av.1 e),.inl ⟨rfl,by simp[G',hrd],fun l hc b hb=>?_⟩⟩;have:=hS.hok e;simp only[ew,hc]at this;exact oldt b _ (this.2.2 b hb).1 (fun r' j' e'=>by cases e';exact⟨h,l,e,hc⟩)
  ·have hrd:r≠d:=by rintro rfl;rw[hloc]at e;cases e
   simp[G',hrd,e]
 have owold:∀ b,b<w.heap.size->G.ow b=none->G'.ow b=none:=by
  intro b hb hn;have h1:¬ (box=true/\b=b0):=by
   rintro⟨e1,rfl⟩;have:=(hbox e1).1;omega
  have h2:¬ ∃ j,j<hs.length/\b∈nf j:=by
   rintro⟨j,hj,hbj⟩;rcases(hfree j hj b hbj).2 with h|⟨r,j',e1,e2⟩;omega
   ·rw[e1]at hn;cases hn
  simp only[G',VF h1,dif_neg h2];exact hn
 have hroX:∀ b,G'.ow b=some .ro->cx.ro b:=fun b e=>hS.roX b (by simp only[G']at e;(repeat' split at e)<;>first|(cases e;done)|exact e)
 refine⟨G',⟨hS.defers,hS.tm,?_,?_,?_,?_,?_,?_,⟨hos.trans hS.frame.os,htape.trans hS.frame.tape,hout.trans hS.frame.output,Z8 hS.frame.size hsize,fun b hb hf=>Eq.trans (hsame b (Ym hb hS.frame.size) (fun r j e=>by rcases hS.frow b hb hf with q|q<;>rw[e]at q<;>cases q)) (hS.frame.block b hb hf)⟩,?_,?_,?_,?_,?_,?_,hroX⟩,fun j=>by simp[G'],fun h=>by simp[G',h],st,fun b q1 q2=>by
  simp only[G'];rw[VF (fun⟨e1,e2⟩=>q1 e1 e2),dif_neg (fun⟨j,e1,e2⟩=>q2 j e1 e2)]⟩
 rotate_left 7
 ·intro r j h e;rw[av,hl]at e;by_cases c:r=d
  ·subst c;rw[VE rfl,ZB]at e;obtain⟨h2,e1,e2⟩:=e;cases e2;simp only[G',if_true];exact horg j h e1
  ·rw[VF c]at e;simp only[G',VF c];exact hS.anc r j h (av.2 e)
 ·intro r x hx;obtain⟨h1,h2⟩:=hS.aloc r x hx;have hrd:r≠d:=by rintro rfl;rw[hloc]at h1;cases h1
  simp only[G',VF hrd];exact⟨h1,by rw[hm,VF hrd];exact h2⟩
 ·intro r b o hx;obtain⟨h1,h2⟩:=hS.aloc r _ hx;obtain⟨b',o',cur,ty,f1,f2,f3,_⟩:=hS.boxes r _ h2;rw[h1]at f1;cases f1;exact(hS.afr r b o hx).keep (oldt b _ f2 (fun r j e=>by cases e))
 ·intro r1 r2 k1 k2 b o1 o2 hne h1 h2 q1 q2;rw[hm]at h1 h2;simp only[G']at q1 q2;by_cases c1:r1=d
  ·by_cases c2:r2=d;exact absurd (c1.trans c2.symm) hne
   ·rw[VF c2]at h2 q2;rw[VE c1]at h1 q1;split at q1
    ·rename_i hb;cases q1;have:=hbsz r2 k2 _ _ h2 q2;have:=(hbox hb).1;omega
    ·cases q1
  ·rw[VF c1]at h1 q1;by_cases c2:r2=d
   ·rw[VE c2]at h2 q2;split at q2
    ·rename_i hb;cases q2;have:=hbsz r1 k1 _ _ h1 q1;have:=(hbox hb).1;omega
    ·cases q2
   ·rw[VF c2]at h2 q2;exact hS.sep r1 r2 k1 k2 b o1 o2 hne h1 h2 q1 q2
 ·intro r b o hx ha;simp only[G']at hx;by_cases c:r=d
  ·rw[VE c]at hx;split at hx
   ·rename_i hb;cases hx;exact Z8 hS.frame.size (hbox hb).1
   ·cases hx
  ·rw[VF c]at hx;exact hS.newb r b o hx ha
 ·intro e y hy;rw[hr]at hy;obtain⟨e1,y',e2,e3⟩:=hS.reg e y hy;exact⟨e1,y',e2,cW.step hS st _ _ e3⟩
 ·intro r k hk;rw[hm]at hk;by_cases c:r=d
  ·subst c;rw[VE rfl]at hk;cases hk;obtain⟨f1,⟨cur,ty,f2,f3,f4⟩,f5⟩:=hbox rfl;exact⟨b0,off,cur,ty,by simp[G'],by simpa[G']using owb rfl,f2,f3,fun j hj=>by simp[G',f4 j hj]⟩
  ·rw[VF c]at hk;obtain⟨b,o,cur,ty,f1,f2,f3,f4,f5⟩:=hS.boxes r k hk;exact⟨b,o,cur,ty,by simp[G',c,f1],by simp only[G',VF c];exact owk b _ f2 (fun r j e=>by cases e),by rw[oldt b _ f2 (fun r j e=>by cases e)];exact f3,f4,fun j hj=>by simp[G',c,f5 j hj]⟩
 ·intro r j y hy;rw[hl]at hy;by_cases c:r=d
  ·subst c;rw[VE rfl]at hy;cases e:hs[j]? with
   |none=>simp[e]at hy
   | some h=>
     simp[e]at hy;subst hy;have hj:j<hs.length:=(ZF.1 e).1;refine⟨h,hs.length,box,rfl,by rw[hm,VE rfl],hj,?_⟩;have hn:=hnew j h e;cases hc:h.c with
     | own l=>
       simp only[KS,ew,hc]at hn ⊢;refine⟨by simp only[G',if_true];exact hn.1,by simp only[G',if_true];exact hn.2.1,fun b hb=>?_⟩;have hb':b∈nf j:=by simpa only[G',if_true]using hb
       exact⟨own j hj b hb',(hfree j hj b hb').1⟩
     | ro l=>
       simp only[KS,ew,hc]at hn ⊢;obtain⟨e1,S',e2,e3⟩:=hn;exact⟨S',by simp only[G',if_true];exact e2,fun b hb=>owk b _ (e3 b hb) (fun r j e=>by cases e)⟩
     |gone=>simp only[ew,hc]
  ·rw[VF c]at hy;obtain⟨h,k,bx,e1,e2,e3,e4⟩:=hS.leaf r j y hy;refine⟨h,k,bx,e1,by rw[hm,VF c];exact e2,e3,?_⟩;subst e1;cases hc:h.c with
   | own l=>
     simp only[ew,hc]at e4 ⊢;refine⟨?_,by simp only[G',VF c];exact e4.2.1,fun b hb=>?_⟩
     ·simp only[G',VF c];exact bN.keep _ _ _ e4.1 (fun b hb=>oldt b _ (e4.2.2 b hb).1 (fun r' j' e=>by cases e;exact⟨h,l,av.2 hy,hc⟩))
     ·have hb':b∈G.fp r j:=by simpa only[G',VF c]using hb
      obtain⟨f1,f2⟩:=e4.2.2 b hb';exact⟨owk b _ f1 (fun r' j' e=>by cases e;exact⟨h,l,av.2 hy,hc⟩),f2.keep (oldt b _ f1 (fun r' j' e=>by cases e;exact⟨h,l,av.2 hy,hc⟩))⟩
   | ro l=>
     simp only[ew,hc]at e4 ⊢;obtain⟨S',f1,f2⟩:=e4;exact⟨S',by simp only[G',VF c];exact bN.keep _ _ _ f1 (fun b hb=>oldt b _ (f2 b hb) (fun r j e=>by cases e)),fun b hb=>owk b _ (f2 b hb) (fun r j e=>by cases e)⟩
   |gone=>simp only[ew,hc]
 ·intro r y hy;rw[hm]at hy;by_cases c:r=d
  ·rw[VE c]at hy;cases hy;exact⟨_,_,rfl⟩
  ·rw[VF c]at hy;exact hS.metas r y hy
 ·intro r y hy;by_cases c:r=d
  ·subst c;cases box with
   |true=>exact⟨hs.length,by rw[hm,VE rfl]⟩
   |false=>simp[G']at hy
  ·simp only[G',VF c]at hy;obtain⟨k,hk⟩:=hS.noloc r y hy;exact⟨k,by rw[hm,VF c];exact hk⟩
 ·intro b t ht;by_cases h1:box=true/\b=b0
  ·obtain⟨e1,rfl⟩:=h1;obtain⟨_,⟨cur,ty,f2,_⟩,_⟩:=hbox e1;exact(ZE.1 f2).1
  ·by_cases h2:∃ j,j<hs.length/\b∈nf j
   ·obtain⟨j,hj,hb⟩:=h2;exact(hfree j hj b hb).1.lt
   ·simp only[G',VF h1,dif_neg h2]at ht;exact Ym (hS.lt b t ht) hsize
 ·intro b hb hf;have hb':b<w.heap.size:=Ym hb hS.frame.size;rcases hS.frow b hb hf with h|h;exact .inl (owold b hb' h);exact .inr (owk b _ h (fun r j e=>by cases e))
def aO.newRoot {cx:Cx}{g:Gm}{G:Gh}{a:Act}{w:World}(hS:aO cx G g a w){d:Nat}(hd:g (.meta_ d)=none)(box:Bool)(hs:List Hv)(w':World) 
 (hw:Same (fun _=>True) w w') (nv:Nat->Value) (nf:Nat->List Nat)
 (hnew:∀ j h,hs[j]?=some h->KS g G w w' h (nv j) (nf j)) (horg:∀ j h,hs[j]?=some h->fg cx h.c h.org (nv j))
 (hdis:∀ i j,i<hs.length->j<hs.length->i≠j->∀ b∈nf i,b∉nf j)
 (b0 off:Nat) (hbox:box=true->w.heap.size<=b0/\(∃ cur ty,w'.heap[b0]?=some (.cells cur ty (0,0))/\off+hs.length<=cur.size/\∀ j,j<hs.length->cur[off+j]?=some (nv j))/\∀ j,j<hs.length->b0∉nf j):
 ∃ G',aO cx G' ((W.root d box hs).app g) a w'/\(∀ j,G'.val d j=nv j)/\(box=true->G'.loc d=some (b0,off))/\Step g G w ((W.root d box hs).app g) G' w'/\(∀ b,(box=true->b≠b0)->(∀ j,j<hs.length->b∉nf j)->G'.ow b=G.ow b):=
 hS.newRoot' hd box hs w' hw.os hw.tape hw.output hw.size (fun b hb _=>hw.block b hb trivial) nv nf hnew horg hdis b0 off hbox
open Classical in
def aO.upd' {cx:Cx}{g:Gm}{G:Gh}{a:Act}{w:World}(hS:aO cx G g a w){r j:Nat}{h:Hv}(hh:g (.leaf r j)=some (.h h))(h':Hv)(nv:Value)(S:List Nat)(w':World) 
 (hstep:(h.ver<h'.ver/\h.iv<=h'.iv)\/(h'.ver=h.ver/\h.iv<h'.iv/\nv=G.val r j/\aab h.c h'.c))
 (hos:w'.os=w.os) (htape:w'.tape=w.tape) (hout:w'.output=w.output) (hsize:w.heap.size<=w'.heap.size)
 (hch:∀ b,b<w.heap.size->(∀ off,G.loc r≠some (b,off))->(∀ l,h.c=.own l->b∉G.fp r j)->w'.heap[b]?=w.heap[b]?)
 (hboxc:∀ b off,G.loc r=some (b,off)->∃ cur cur' ty,w.heap[b]?=some (.cells cur ty (0,0))/\w'.heap[b]?=some (.cells cur' ty (0,0))/\cur'.size=cur.size/\(off+j<cur.size->cur'[off+j]?=some nv)/\∀ i,i≠off+j->cur'[i]?=cur[i]?)
 (hfp:∀ l,h.c=.own l->∀ b∈G.fp r j,eV w' b)
 (hnew:match h'.c with
   | .own l=>bN w' l nv S/\S.Nodup/\∀ b∈S,eV w' b/\(sX g G w b\/∃ l,h.c=.own l/\b∈G.fp r j)
   | .ro l=>∃ S',bN w' l nv S'/\∀ b∈S',G.ow b=some .ro
   | .gone=>True) (horg:fg cx h'.c h'.org nv):
 ∃ G',aO cx G' ((W.leaf r j h').app g) a w'/\Step g G w ((W.leaf r j h').app g) G' w'/\(∀ r' j',G'.val r' j'=if r'=r/\j'=j then nv else G.val r' j')/\G'.loc=G.loc/\(∀ b,G.ow b=some .ro->G'.ow b=some .ro)/\(∀ b,((∃ l,h'.c=.own l)->b∉S)->G'.ow b=G.ow b)/\(∀ r' j',G'.fp r' j'=if r'=r/\j'=j then S else G.fp r' j'):=by
 have hokh:=hS.hok (av.2 hh);obtain⟨h0,k0,bx0,e0,em,ej,_⟩:=hS.leaf r j _ hh;cases e0;have hlo:∀ l,h.c=.own l->∀ b∈G.fp r j,b<w.heap.size:=by
  intro l hc b hb;simp only[ew,hc]at hokh;exact bN.lt _ _ _ hokh.1 b hb
 let isS:Nat->Prop:=fun b=>(∃ l,h'.c=.own l)/\b∈S
 let G':Gh:={
  loc:=G.loc
  val:=fun r' j'=>if r'=r/\j'=j then nv else G.val r' j'
  fp:=fun r' j'=>if r'=r/\j'=j then S else G.fp r' j'
  ow:=fun b=>if isS b then some (.leaf r j)else G.ow b
  lead:=G.lead}
 have hSb:∀ b,isS b->eV w' b/\(sX g G w b\/∃ l,h.c=.own l/\b∈G.fp r j):=by
  rintro b ⟨⟨l,hc⟩,hb⟩;simp only[hc]at hnew;exact hnew.2.2 b hb
 have owk:∀ b t,G.ow b=some t->(∀ r1 j1,t=.leaf r1 j1->¬ (r1=r/\j1=j)/\∃ h l,gl g r1 j1=some h/\h.c=.own l)->G'.ow b=some t:=by
  intro b t ht hl;have hb:=hS.lt b t ht;by_cases c:isS b
  ·exfalso;rcases(hSb b c).2 with hf|⟨l,hc,hbf⟩
   ·rcases hf with hf|⟨r1,j1,f1,f2⟩;omega
    ·rw[f1]at ht;cases ht;obtain⟨_,h1,l1,q1,q2⟩:=hl r1 j1 rfl;exact f2 h1 l1 q1 q2
   ·simp only[ew,hc]at hokh;have:=(hokh.2.2 b hbf).1;rw[this]at ht;cases ht;exact(hl r j rfl).1 ⟨rfl,rfl⟩
  ·simp only[G',VF c];exact ht
 have owro:∀ b,G.ow b=some .ro->G'.ow b=some .ro:=fun b hb=>owk b _ hb (fun r1 j1 e=>by cases e)
 have box_ow:∀ b off,G.loc r=some (b,off)->G.ow b=some (.box (G.lead r)):=by
  intro b off hl;obtain⟨k,hk⟩:=hS.noloc r _ hl;obtain⟨b',off',cur,ty,f1,f2,_⟩:=hS.boxes r k hk;rw[hl]at f1;cases f1;exact f2
 have same:∀ b t,G.ow b=some t->t≠ .box (G.lead r)->t≠ .leaf r j->w'.heap[b]?=w.heap[b]?:=by
  intro b t ht h1 h2;refine hch b (hS.lt b t ht) ?_ ?_
  ·intro off hl;rw[box_ow b off hl]at ht;cases ht;exact h1 rfl
  ·intro l hc hb;simp only[ew,hc]at hokh;rw[(hokh.2.2 b hb).1]at ht;cases ht;exact h2 rfl
 have hr:∀ d,(W.leaf r j h').app g (.reg d)=g (.reg d):=fun d=>by simp[W.app]
 have hm:∀ d,(W.leaf r j h').app g (.meta_ d)=g (.meta_ d):=fun d=>by simp[W.app]
 have hl:∀ r' j',(W.leaf r j h').app g (.leaf r' j')=if r'=r/\j'=j then some (.h h')else g (.leaf r' j'):=fun r' j'=>by simp[W.app]
 have st:Step g G w ((W.leaf r j h').app g) G' w':=by
  refine⟨fun r1 j1 h1 e=>?_,fun b hb=>⟨owro b hb,same b _ hb (by simp) (by simp)⟩,fun b hb=>⟨owk b _ hb (fun r1 j1 e=>by cases e),same b _ hb (by simp) (by simp)⟩,fun _ _ h=>h⟩;by_cases c:r1=r/\j1=j
  ·obtain⟨rfl,rfl⟩:=c;rw[av,hh]at e;cases e;refine⟨h',av.2 (by rw[hl,VE ⟨rfl,rfl⟩]),.inr ?_⟩;rcases hstep with k|⟨k1,k2,k3,k4⟩;exact .inr k;exact .inl ⟨k1,k2,by simp[G',k3],k4⟩
  ·refine⟨h1,av.2 (by rw[hl,VF c];exact av.1 e),.inl ⟨rfl,by simp only[G',VF c],fun l hc b hb=>?_⟩⟩;have:=hS.hok e;simp only[ew,hc]at this;exact same b _ (this.2.2 b hb).1 (by simp) (fun e=>by cases e;exact c ⟨rfl,rfl⟩)
 have unf:∀ b t,G.ow b=some t->t≠ .box (G.lead r)->t≠ .leaf r j->eV w b->eV w' b:=fun b t ht h1 h2 h=>by unfold eV at h ⊢;rw[same b t ht h1 h2];exact h
 have hroX:∀ b,G'.ow b=some .ro->cx.ro b:=fun b e=>hS.roX b (by simp only[G']at e;(repeat' split at e)<;>first|(cases e;done)|exact e)
 refine⟨G',⟨hS.defers,hS.tm,?_,?_,?_,?_,?_,?_,⟨hos.trans hS.frame.os,htape.trans hS.frame.tape,hout.trans hS.frame.output,Z8 hS.frame.size hsize,fun b hb hf=>Eq.trans ?_ (hS.frame.block b hb hf)⟩,?_,?_,fun r x e=>by rw[hm];exact hS.aloc r x e,?_,fun r1 r2 k1 k2 b o1 o2 h1 h2 h3=>hS.sep r1 r2 k1 k2 b o1 o2 h1 (by rw[<-hm];exact h2) (by rw[<-hm];exact h3),hS.newb,hroX⟩,st,fun r' j'=>rfl,rfl,owro,fun b hb=>by simp only[G'];rw[VF (fun⟨q1,q2⟩=>hb q1 q2)],fun r' j'=>rfl⟩
 ·intro d y hy;rw[hr]at hy;obtain⟨e1,y',e2,e3⟩:=hS.reg d y hy;exact⟨e1,y',e2,cW.step hS st _ _ e3⟩
 ·intro r1 k hk;rw[hm]at hk;obtain⟨b,off,cur,ty,f1,f2,f3,f4,f5⟩:=hS.boxes r1 k hk;by_cases c:r1=r
  ·subst c;obtain⟨cur0,cur',ty',q1,q2,q3,q4,q5⟩:=hboxc b off f1;rw[f3]at q1;cases q1;refine⟨b,off,cur',ty,f1,owk b _ f2 (fun r1 j1 e=>by cases e),q2,Uc,fun j1 hj1=>?_⟩;by_cases cj:j1=j
   ·subst cj;simp only[G',true_and,if_true];exact q4 Uc
   ·simp only[G',cj,and_false,if_false];rw[q5 _ Uc];exact f5 j1 hj1
  ·have hval:∀ j1,G'.val r1 j1=G.val r1 j1:=fun j1=>by simp only[G',c,false_and,if_false]
   by_cases cb:∃ off2,G.loc r=some (b,off2)
   ·obtain⟨off2,hl2⟩:=cb;obtain⟨cur0,cur',ty',q1,q2,q3,q4,q5⟩:=hboxc b off2 hl2;rw[f3]at q1;cases q1;obtain⟨kr,hkr⟩:=hS.noloc r _ hl2;have hk0:kr=k0:=by rw[em]at hkr;cases hkr;rfl
    have hsep:=hS.sep r1 r k kr b off off2 c hk hkr f1 hl2;refine⟨b,off,cur',ty,f1,owk b _ f2 (fun r1 j1 e=>by cases e),q2,Uc,fun j1 hj1=>?_⟩;rw[hval,q5 _ Uc];exact f5 j1 hj1
   ·have hw:w'.heap[b]?=w.heap[b]?:=hch b (ZE.1 f3).1 (fun off2 e=>cb ⟨off2,e⟩) (fun l hc hb=>by
     simp only[ew,hc]at hokh;rw[(hokh.2.2 b hb).1]at f2;cases f2)
    exact⟨b,off,cur,ty,f1,owk b _ f2 (fun r1 j1 e=>by cases e),by rw[hw];exact f3,f4,fun j1 hj1=>by rw[hval];exact f5 j1 hj1⟩
 ·intro r1 j1 y hy;rw[hl]at hy;by_cases c:r1=r/\j1=j
  ·obtain⟨rfl,rfl⟩:=c;rw[VE ⟨rfl,rfl⟩]at hy;cases hy;refine⟨h',k0,bx0,rfl,by rw[hm];exact em,ej,?_⟩;cases hc:h'.c with
   | own l=>
     simp only[hc]at hnew;simp only[ew,hc,G',and_self,if_true];exact⟨hnew.1,hnew.2.1,fun b hb=>⟨by rw[VE ⟨⟨l,hc⟩,hb⟩],(hnew.2.2 b hb).1⟩⟩
   | ro l=>
     simp only[hc]at hnew;simp only[ew,hc,G',and_self,if_true];obtain⟨S',q1,q2⟩:=hnew;exact⟨S',q1,fun b hb=>owro b (q2 b hb)⟩
   |gone=>simp only[ew,hc]
  ·rw[VF c]at hy;obtain⟨h1,k,bx,e1,e2,e3,e4⟩:=hS.leaf r1 j1 y hy;refine⟨h1,k,bx,e1,by rw[hm];exact e2,e3,?_⟩;subst e1;cases hc:h1.c with
   | own l=>
     simp only[ew,hc,G',VF c]at e4 ⊢;refine⟨bN.keep _ _ _ e4.1 (fun b hb=>same b _ (e4.2.2 b hb).1 (by simp) (fun e=>by cases e;exact c ⟨rfl,rfl⟩)),e4.2.1,fun b hb=>?_⟩;obtain⟨f1,f2⟩:=e4.2.2 b hb;exact⟨owk b _ f1 (fun r2 j2 e=>by cases e;exact⟨c,h1,l,av.2 hy,hc⟩),unf b _ f1 (by simp) (fun e=>by cases e;exact c ⟨rfl,rfl⟩) f2⟩
   | ro l=>
     simp only[ew,hc,G',VF c]at e4 ⊢;obtain⟨S',f1,f2⟩:=e4;exact⟨S',bN.keep _ _ _ f1 (fun b hb=>same b _ (f2 b hb) (by simp) (by simp)),fun b hb=>owro b (f2 b hb)⟩
   |gone=>simp only[ew,hc]
 ·intro r1 y hy;rw[hm]at hy;exact hS.metas r1 y hy
 ·intro r1 y hy;obtain⟨k,hk⟩:=hS.noloc r1 y hy;exact⟨k,by rw[hm];exact hk⟩
 ·intro b t ht;by_cases c:isS b;exact(hSb b c).1.lt
  ·simp only[G',VF c]at ht;exact Ym (hS.lt b t ht) hsize
 ·refine hch b (Ym hb hS.frame.size) ?_ ?_
  ·intro off hlc;rcases hS.frow b hb hf with e|e<;>rw[box_ow b off hlc]at e<;>cases e
  ·intro l hc hbf;simp only[ew,hc]at hokh;rcases hS.frow b hb hf with e|e<;>rw[(hokh.2.2 b hbf).1]at e<;>cases e
 ·intro b hb hf;rcases hS.frow b hb hf with e|e
  ·by_cases c:isS b
   ·exfalso;rcases(hSb b c).2 with hfr|⟨l,hc,hbf⟩
    ·rcases hfr with q|⟨r1,j1,q1,q2⟩
     ·have:=hS.frame.size;omega
     ·rw[e]at q1;cases q1
    ·simp only[ew,hc]at hokh;rw[(hokh.2.2 b hbf).1]at e;cases e
   ·simp only[G',VF c];exact .inl e
  ·exact .inr (owro b e)
 ·intro r1 j1 h1 e;rw[av,hl]at e;by_cases c:r1=r/\j1=j
  ·rw[VE c]at e;cases e;simp only[G',VE c];exact horg
  ·rw[VF c]at e;simp only[G',VF c];exact hS.anc r1 j1 h1 (av.2 e)
 ·intro r1 b off hx;obtain⟨h1,h2⟩:=hS.aloc r1 _ hx;obtain⟨b',o',curB,tyB,f1,f2,f3,f4,_⟩:=hS.boxes r1 _ h2;rw[h1]at f1;cases f1;have hB:=hS.afr r1 b off hx;by_cases cb:∃ off2,G.loc r=some (b,off2)
  ·obtain⟨off2,hl2⟩:=cb;obtain⟨cur0,cur',ty',q1,q2,q3,q4,q5⟩:=hboxc b off2 hl2;obtain⟨c0,c1,ty1,m1,m2,m3,m4⟩:=hB;rw[m2]at q1;cases q1;refine⟨c0,cur',ty',m1,q2,Uc,fun i hi=>?_⟩;by_cases ci:i=off2+j
   ·exfalso;obtain⟨kr,hkr⟩:=hS.noloc r _ hl2;have hk0:kr=k0:=by rw[em]at hkr;cases hkr;rfl
    by_cases crr:r1=r
    ·subst crr;have hk1:kr=cx.alen r1:=by rw[hkr]at h2;cases h2;rfl
     rw[h1]at hl2;cases hl2;have:=hi r1 off hx;omega
    ·by_cases hal:∃ x,cx.aloc r=some x
     ·obtain⟨x,hx2⟩:=hal;obtain⟨g1,g2⟩:=hS.aloc r x hx2;rw[hl2]at g1;cases g1;have:=hi r off2 hx2;rw[hkr]at g2;cases g2;omega
     ·have:=hS.newb r b off2 hl2 (by cases e:cx.aloc r with|none=>rfl|some x=>exact absurd ⟨x,e⟩ hal);have:=(ZE.1 m1).1;omega
   ·rw[q5 i ci];exact m4 i hi
  ·refine hB.keep (hch b (ZE.1 f3).1 (fun off2 e=>cb ⟨off2,e⟩) (fun l hc hb=>?_));simp only[ew,hc]at hokh;rw[(hokh.2.2 b hb).1]at f2;cases f2
def aO.upd {cx:Cx}{g:Gm}{G:Gh}{a:Act}{w:World}(hS:aO cx G g a w){r j:Nat}{h:Hv}(hh:g (.leaf r j)=some (.h h))(h':Hv)(nv:Value)(S:List Nat)(w':World) 
 (hstep:(h.ver<h'.ver/\h.iv<=h'.iv)\/(h'.ver=h.ver/\h.iv<h'.iv/\nv=G.val r j/\aab h.c h'.c))
 (hos:w'.os=w.os) (htape:w'.tape=w.tape) (hout:w'.output=w.output) (hsize:w.heap.size<=w'.heap.size)
 (hch:∀ b,b<w.heap.size->(∀ off,G.loc r≠some (b,off))->(∀ l,h.c=.own l->b∉G.fp r j)->w'.heap[b]?=w.heap[b]?)
 (hboxc:∀ b off,G.loc r=some (b,off)->∃ cur cur' ty,w.heap[b]?=some (.cells cur ty (0,0))/\w'.heap[b]?=some (.cells cur' ty (0,0))/\cur'.size=cur.size/\(off+j<cur.size->cur'[off+j]?=some nv)/\∀ i,i≠off+j->cur'[i]?=cur[i]?)
 (hfp:∀ l,h.c=.own l->∀ b∈G.fp r j,eV w' b)
 (hnew:match h'.c with
   | .own l=>bN w' l nv S/\S.Nodup/\∀ b∈S,eV w' b/\(sX g G w b\/∃ l,h.c=.own l/\b∈G.fp r j)
   | .ro l=>∃ S',bN w' l nv S'/\∀ b∈S',G.ow b=some .ro
   | .gone=>True) (horg:fg cx h'.c h'.org nv):
 ∃ G',aO cx G' ((W.leaf r j h').app g) a w'/\Step g G w ((W.leaf r j h').app g) G' w'/\(∀ r' j',G'.val r' j'=if r'=r/\j'=j then nv else G.val r' j')/\G'.loc=G.loc/\(∀ b,G.ow b=some .ro->G'.ow b=some .ro)/\(∀ b,((∃ l,h'.c=.own l)->b∉S)->G'.ow b=G.ow b):=by
 obtain⟨G',k1,k2,k3,k4,k5,k6,_⟩:=hS.upd' hh h' nv S w' hstep hos htape hout hsize hch hboxc hfp hnew horg;exact⟨G',k1,k2,k3,k4,k5,k6⟩
end Go.V
namespace Go.V
def bH.upd {w:World}{sz:Nat}:∀ {es:ab} {vs:List Value} {S:List Nat},bH w sz es vs S->∀ (i:Nat) (e:ax),es[i]?=some e->
 ∃ Sa S1 Sb,S=Sa++S1++Sb/\e.length=sz/\ak w e ((vs.drop (i*sz)).take sz) S1/\
  ∀ (w':World) (e':ax) (vs1:List Value) (S1':List Nat),ak w' e' vs1 S1'->vs1.length=sz->(∀ c,c∈Sa\/c∈Sb->w'.heap[c]?=w.heap[c]?)->
   bH w' sz (es.set i e') (vs.take (i*sz)++vs1++vs.drop ((i+1)*sz)) (Sa++S1'++Sb)
 |[],vs,S,h,i,e,he=>by simp at he
 | e0::es,vs,S,h,i,e,he=>by
   simp only[bH]at h;obtain⟨v1,v2,S1,S2,e1,hl,h1,h2,e2⟩:=h;subst e1 e2;cases i with
   | zero=>
     simp at he;subst he;refine⟨[],S1,S2,by simp,by rw[<-h1.length,hl],by simpa[<-hl]using h1,?_⟩;intro w' e' vs1 S1' hr hlen hk;simp only[Y5,Y6,Y0,ZJ,Zx,Wa,bH];exact⟨vs1,v2,S1',S2,by rw[<-hl,WJ],hlen,hr,bH.keep sz _ _ _ h2 (fun c hc=>hk c (.inr hc)),rfl⟩
   | succ i=>
     simp at he;obtain⟨Sa,Sm,Sb,e3,e4,e5,e6⟩:=bH.upd h2 i e he;have hd:∀ k,(v1++v2).drop ((k+1)*sz)=v2.drop (k*sz):=by
      intro k;rw[XE,Y1 (by rw[hl,Zs];omega),ZJ,hl,Zs]
      congr 1;omega
     have ht:(v1++v2).take ((i+1)*sz)=v1++v2.take (i*sz):=by
      rw[Xp,Yj (by rw[hl,Zs];omega),hl,Zs]
      congr 2;omega
     refine⟨S1++Sa,Sm,Sb,by simp[e3],e4,by rw[hd];exact e5,?_⟩;intro w' e' vs1 S1' hr hlen hk;have:=e6 w' e' vs1 S1' hr hlen (fun c hc=>hk c (by rcases hc with h|h;exact .inl (by simp[h]);exact .inr h));rw[ht,hd];simp only[XF,bH];exact⟨v1,v2.take (i*sz)++vs1++v2.drop ((i+1)*sz),S1,Sa++S1'++Sb,by simp,hl,ak.keep _ _ _ h1 (fun c hc=>hk c (.inl (by simp[hc]))),this,by simp⟩
def ak.upd {w:World}:∀ {ls:ax} {vs:List Value} {S:List Nat},ak w ls vs S->∀ (j:Nat) (l:L),ls[j]?=some l->
 ∃ Sa S1 Sb v,S=Sa++S1++Sb/\vs[j]?=some v/\bN w l v S1/\
  ∀ (w':World) (l':L) (S1':List Nat),bN w' l' v S1'->(∀ c,c∈Sa\/c∈Sb->w'.heap[c]?=w.heap[c]?)->ak w' (ls.set j l') vs (Sa++S1'++Sb)
 |[],vs,S,h,j,l,hl=>by simp at hl
 | l0::ls,vs,S,h,j,l,hl=>by
   simp only[ak]at h;obtain⟨v,vs',S1,S2,e1,h1,h2,e2⟩:=h;subst e1 e2;cases j with
   | zero=>
     simp at hl;subst hl;refine⟨[],S1,S2,v,by simp,by simp,h1,?_⟩;intro w' l' S1' hr hk;simp only[Y5,ZJ,ak];exact⟨v,vs',S1',S2,rfl,hr,ak.keep _ _ _ h2 (fun c hc=>hk c (.inr hc)),rfl⟩
   | succ j=>
     simp at hl;obtain⟨Sa,Sm,Sb,v',e3,e4,e5,e6⟩:=ak.upd h2 j l hl;refine⟨S1++Sa,Sm,Sb,v',by simp[e3],by simpa using e4,e5,?_⟩;intro w' l' S1' hr hk;have:=e6 w' l' S1' hr (fun c hc=>hk c (by rcases hc with h|h;exact .inl (by simp[h]);exact .inr h));simp only[XF,ak];exact⟨v,vs',S1,Sa++S1'++Sb,rfl,bN.keep _ _ _ h1 (fun c hc=>hk c (.inl (by simp[hc]))),this,by simp⟩
def ak.append {w:World}:∀ {l1 l2:ax} {v1 v2:List Value} {S1 S2:List Nat},ak w l1 v1 S1->ak w l2 v2 S2->ak w (l1++l2) (v1++v2) (S1++S2)
 |[],l2,v1,v2,S1,S2,h,k=>by simp only[ak]at h;obtain⟨rfl,rfl⟩:=h;simpa using k
 | l::l1,l2,v1,v2,S1,S2,h,k=>by
   simp only[ak]at h;obtain⟨v,vs',Sa,Sb,rfl,h1,h2,rfl⟩:=h;simp only[ZP,ak];exact⟨v,vs'++v2,Sa,Sb++S2,rfl,h1,ak.append h2 k,by simp⟩
def ak.split {w:World}:∀ {l1 l2:ax} {vs:List Value} {S:List Nat},ak w (l1++l2) vs S->∃ S1 S2,S=S1++S2/\ak w l1 (vs.take l1.length) S1/\ak w l2 (vs.drop l1.length) S2
 |[],l2,vs,S,h=>⟨[],S,by simp,by simp[ak],by simpa using h⟩
 | l::l1,l2,vs,S,h=>by
   simp only[ZP,ak]at h;obtain⟨v,vs',Sa,Sb,rfl,h1,h2,rfl⟩:=h;obtain⟨S1,S2,rfl,k1,k2⟩:=ak.split h2;refine⟨Sa++S1,S2,by simp,?_,by simpa using k2⟩;simp only[Zp,XG,ak];exact⟨v,_,Sa,S1,rfl,h1,k1,rfl⟩
def bH.append {w:World}{sz:Nat}:∀ {l1 l2:ab} {v1 v2:List Value} {S1 S2:List Nat},bH w sz l1 v1 S1->bH w sz l2 v2 S2->bH w sz (l1++l2) (v1++v2) (S1++S2)
 |[],l2,v1,v2,S1,S2,h,k=>by simp only[bH]at h;obtain⟨rfl,rfl⟩:=h;simpa using k
 | l::l1,l2,v1,v2,S1,S2,h,k=>by
   simp only[bH]at h;obtain⟨va,vb,Sa,Sb,rfl,hl,h1,h2,rfl⟩:=h;simp only[ZP,bH];exact⟨va,vb++v2,Sa,Sb++S2,by simp,hl,h1,bH.append h2 k,by simp⟩
def qa:L->List (Nat×Nat)->ax->L
 | .s sz es,[(i,_)],rec=>.s sz (es.set i rec)
 | .s sz es,(i,j)::p,rec=>.s sz (es.set i ((es.getD i []).set j (qa ((es.getD i []).getD j .g) p rec)))
 |l,_,_=>l
def nF:∀ (p:List (Nat×Nat)) (l:L) (rec:ax) (j:Nat) (new:ax),bT l p=some (rec,j)->mR l p new=qa l p (rec.take j++new++rec.drop (j+new.length))
 |[],l,rec,j,new,h=>by cases l<;>simp[bT]at h
 | [(i,k)],l,rec,j,new,h=>by
   cases l with
   |v y=>simp[bT]at h
   |g=>simp[bT]at h
   |m _ _=>simp[bT]at h
   | s sz es=>
     simp only[bT,ZB]at h;obtain⟨e,h1,h2⟩:=h;cases h2;simp[mR,qa,Zv,h1]
 | (i,k)::q::p,l,rec,j,new,h=>by
  cases l with
  |v y=>simp[bT]at h
  |g=>simp[bT]at h
  |m _ _=>simp[bT]at h
  | s sz es=>
    simp only[bT]at h;cases h1:es[i]? with
    |none=>simp[h1]at h
    | some e=>
      simp only[h1]at h;cases h2:e[k]? with
      |none=>simp[h2]at h
      | some l'=>
        simp only[h2]at h;have:=nF (q::p) l' rec j new h;simp only[mR,qa,Zv,h1,h2,Z0,this]
def BD (l:L)(p:List (Nat×Nat))(rec:ax):∀ sz es,l=.s sz es->∃ es',qa l p rec=.s sz es'/\es'.length=es.length:=by
 rintro sz es rfl
 match p with
 |[]=>exact⟨es,rfl,rfl⟩
 |[(i,j)]=>exact⟨_,rfl,by simp⟩
 |(i,j)::q::p=>exact⟨_,rfl,by simp⟩
def oG {A B C:List Nat}(h:(A++B++C).Nodup):B.Nodup/\∀ c,c∈B->c∉A/\c∉C:=by
 rw[Zu]at h;obtain⟨h1,h2,h3⟩:=h;rw[Zu]at h1;obtain⟨h4,h5,h6⟩:=h1;exact⟨h5,fun c hc=>⟨fun ha=>h6 c ha c hc rfl,fun hb=>h3 c (by simp[hc]) c hb rfl⟩⟩
def focus {w:World}:∀ (p:List (Nat×Nat)) (l:L) (hv:Value) (S:List Nat) (b o:Nat) (rec:ax) (j0:Nat),bN w l hv S->S.Nodup->bP w l hv p b o->bT l p=some (rec,j0)->
 ∃ cur ty fz base Sa S1 Sb,w.heap[b]?=some (.cells cur ty fz)/\S=Sa++S1++Sb/\b∈Sa/\o=base+j0/\base+rec.length<=cur.size/\
  ak w rec ((cur.toList.drop base).take rec.length) S1/\
  ∀ (w':World) (cur':Array Value) (rec':ax) (S1':List Nat),w'.heap[b]?=some (.cells cur' ty fz)->cur'.size=cur.size->(∀ i,i<base\/base+rec.length<=i->cur'[i]?=cur[i]?)->
   rec'.length=rec.length->ak w' rec' ((cur'.toList.drop base).take rec.length) S1'->(∀ c,c∈Sa\/c∈Sb->c≠b->w'.heap[c]?=w.heap[c]?)->
   bN w' (qa l p rec') hv (Sa++S1'++Sb)
 |[],l,hv,S,b,o,rec,j0,hr,hn,ht,hg=>by cases l<;>simp[bP]at ht
 | (i,j)::p,l,hv,S,b,o,rec,j0,hr,hn,ht,hg=>by
  cases l with
  |v y=>simp[bP]at ht
  |g=>simp[bP]at ht
  |m _ _=>simp[bP]at ht
  | s sz es=>
    have hr0:=hr;simp only[bN]at hr;obtain⟨base0,len,cap,q1,q2,q3,q4,q5⟩:=hr;cases p with
    | nil=>
      simp only[bP]at ht;obtain⟨b1,off,len,cap,y1,y2,y4,y5⟩:=ht;rw[y1]at q1;cases q1;subst y4 y5;rcases q5 with q5|⟨b',off',cur,ty,fz,S',g1,g2,g3,g4,g5⟩
      ·exfalso;have:=q5.1;omega
      cases g1;simp only[bT,ZB]at hg;obtain⟨e,hg1,hg2⟩:=hg;cases hg2;obtain⟨Sa,S1,Sb,k1,k2,k3,k4⟩:=g4.upd i rec hg1;have hcs:(i+1)*sz<=len*sz:=Z4 _ Uc;have hcs2:len*sz<=cap*sz:=Z4 _ q3;have hi1:(i+1)*sz=i*sz+sz:=by rw[Zs];omega
      have sl:∀ c:List Value,(((c.drop off).take (len*sz)).drop (i*sz)).take sz=(c.drop (off+i*sz)).take rec.length:=by
       intro c;apply ZN;intro k;rw[k2];simp only[ZC,Zy];by_cases ck:k<sz
       ·simp only[ck,if_true];rw[VE Uc];congr 1;omega
       ·simp[ck]
      refine⟨cur,ty,fz,off+i*sz,b::Sa,S1,Sb,g2,by rw[g5,k1];simp,by simp,Uc,by rw[k2];omega,by rw[<-sl];exact k3,?_⟩;intro w' cur' rec' S1' hw' hsz hoth hlen hrr hkeep;have hb:b∉Sa/\b∉Sb:=by
       rw[g5,k1]at hn;simp only[Yr,Zg,not_or]at hn;exact⟨hn.1.1.1,hn.1.2⟩
      have:=k4 w' rec' ((cur'.toList.drop (off+i*sz)).take rec.length) S1' hrr (by simp only[Zm,Zz,ZS,hsz];omega)
       (fun c hc=>hkeep c (by rcases hc with h|h;exact .inl (by simp[h]);exact .inr h) (by rintro rfl;rcases hc with h|h;exact hb.1 h;exact hb.2 h))
      simp only[qa,bN];refine⟨_,len,cap,y1,by simpa using q2,q3,q4,.inr ⟨b,off,cur',ty,fz,Sa++S1'++Sb,rfl,hw',by rw[hsz];exact g3,?_,by simp⟩⟩;have he:(cur'.toList.drop off).take (len*sz)=((cur.toList.drop off).take (len*sz)).take (i*sz)++(cur'.toList.drop (off+i*sz)).take rec.length++((cur.toList.drop off).take (len*sz)).drop ((i+1)*sz):=by
       apply ZN;intro k;have hl1:(((cur.toList.drop off).take (len*sz)).take (i*sz)).length=i*sz:=by simp only[Zm,Zz,ZS];omega
       have hl2:((cur'.toList.drop (off+i*sz)).take rec.length).length=sz:=by simp only[Zm,Zz,ZS,hsz];omega
       rcases ZY k (i*sz)with hk|hk
       ·rw[Zj,Yd Uc];simp only[ZC,Zy];rw[VE Uc,VE hk,VE Uc]
        simpa using hoth (off+k) (.inl Uc)
       ·rw[Zj,ZX Uc,hl1];rcases ZY k (i*sz+sz)with hk2|hk2
        ·rw[Yd Uc];simp only[ZC,Zy];rw[VE Uc,VE Uc]
         congr 1;omega
        ·rw[ZX Uc,hl2];simp only[ZC,Zy];by_cases ck:k<len*sz
         ·rw[VE ck,VE Uc];have e1:off+((i+1)*sz+(k-i*sz-sz))=off+k:=by omega
          rw[e1]
          simpa using hoth (off+k) (.inr Uc)
         ·rw[VF ck,VF Uc]
      rw[he];exact this
    | cons q p=>
      simp only[bP]at ht;obtain⟨b1,off,len,cap,y1,y2,l',v',y4,y5,y6⟩:=ht;rw[y1]at q1;cases q1;rcases q5 with q5|⟨b',off',cur,ty,fz,S',g1,g2,g3,g4,g5⟩
      ·exfalso;have:=q5.1;omega
      cases g1;cases hes:es[i]? with
      |none=>simp[hes]at y4
      | some e=>
        simp only[hes,YC]at y4;simp only[bT,hes,y4]at hg;obtain⟨Sa,S1,Sb,k1,k2,k3,k4⟩:=g4.upd i e hes;obtain⟨Ta,T1,Tb,v'',z1,z2,z3,z4⟩:=k3.upd j l' y4;have hv'':v''=v':=by
         have:=BK z2;rw[gh g2, <-Z1,this]at y5;exact YA y5
        subst hv'';have hnA:(b1::(Sa++S1++Sb)).Nodup:=by rw[<-k1, <-g5];exact hn
        rw[Yr]at hnA;have n1:=oG hnA.2;have n2:=oG (z1▸n1.1);have hn1:T1.Nodup:=n2.1;obtain⟨cur1,ty1,fz1,base,Ua,U1,Ub,m1,m2,m3,m4,m5,m6,m7⟩:=focus (q::p) l' v'' T1 b o rec j0 z3 hn1 y6 hg;have hbT:b∈T1:=by rw[m2];simp[m3]
        have hbS:b∈S1:=by rw[z1];simp[hbT]
        have hdist:b≠b1:=by rintro rfl;exact hnA.1 (by simp[hbS])
        refine⟨cur1,ty1,fz1,base,b1::Sa++(Ta++Ua),U1,Ub++Tb++Sb,m1,by rw[g5,k1,z1,m2];simp,by simp[m3],m4,m5,m6,?_⟩;intro w' cur' rec' S1' hw' hsz hoth hlen hrr hkeep;have hb1:w'.heap[b1]?=w.heap[b1]?:=hkeep b1 (.inl (by simp)) (Ne.symm hdist);have hb:∀ c,c∈Sa\/c∈Sb\/c∈Ta\/c∈Tb->c≠b:=by
         rintro c hc rfl;rcases hc with hc|hc|hc|hc;exact(n1.2 _ hbS).1 hc;exact(n1.2 _ hbS).2 hc;exact(n2.2 _ hbT).1 hc;exact(n2.2 _ hbT).2 hc
        have i1:=m7 w' cur' rec' S1' hw' hsz hoth hlen hrr (fun c hc hcb=>hkeep c (by rcases hc with h|h;exact .inl (by simp[h]);exact .inr (by simp[h])) hcb);have i2:=z4 w' _ _ i1 (fun c hc=>hkeep c (by rcases hc with h|h;exact .inl (by simp[h]);exact .inr (by simp[h])) (hb c (by rcases hc with h|h;exact .inr (.inr (.inl h));exact .inr (.inr (.inr h)))));have hlrow:((((cur.toList.drop off).take (len*sz)).drop (i*sz)).take sz).length=sz:=by
         rw[k3.length,k2]
        have i3:=k4 w' _ _ _ i2 hlrow (fun c hc=>hkeep c (by rcases hc with h|h;exact .inl (by simp[h]);exact .inr (by simp[h])) (hb c (by rcases hc with h|h;exact .inl h;exact .inr (.inl h))));simp only[qa,bN,Zv,hes,y4,Z0];refine⟨_,len,cap,y1,by simpa using q2,q3,q4,.inr ⟨b1,off,cur,ty,fz,Sa++(Ta++(Ua++S1'++Ub)++Tb)++Sb,rfl,by rw[hb1];exact g2,g3,?_,?_⟩⟩
        ·have:((cur.toList.drop off).take (len*sz)).take (i*sz)++(((cur.toList.drop off).take (len*sz)).drop (i*sz)).take sz++((cur.toList.drop off).take (len*sz)).drop ((i+1)*sz)=(cur.toList.drop off).take (len*sz):=by
          rw[Zj,show(i+1)*sz=i*sz+sz from by rw[Zs];omega, <-List.drop_drop,ZR,ZR]
         rw[this]at i3;exact i3
        ·simp
end Go.V
namespace Go.V
def add_lit (b o k:Nat):(⟨b,o,none⟩:Addr).add k=⟨b,o+k,none⟩:=by unfold Xq;split<;>simp_all
def iw:∀ {sl:List (Option Nat)} {xs:List Value} {zr:ax},qk sl xs=some zr->(∀ w,ak w zr xs [])/\xs.length=zr.length/\sl.length=zr.length
 |[],[],zr,h=>by simp[qk]at h;subst h;simp[ak]
 |none::sl,[],zr,h=>by simp[qk]at h
 |some sz::sl,[],zr,h=>by simp[qk]at h
 |[],v::xs,zr,h=>by simp[qk]at h
 | none::sl,v::xs,zr,h=>by
   simp only[qk]at h;split at h
   ·rename_i hs;simp only[ZB]at h;obtain⟨zr',h1,rfl⟩:=h;obtain⟨k1,k2,k3⟩:=iw h1;exact⟨fun w=>by simp only[ak];exact⟨v,xs,[],[],rfl,by simp[bN,hs],k1 w,rfl⟩,by simp[k2],by simp[k3]⟩
   ·cases h
 | some sz::sl,v::xs,zr,h=>by
   unfold qk at h;split at h
   ·rename_i e1 e2;cases e1
   ·rename_i e1 e2;cases e1
   ·rename_i sz' ss xs' e1 e2;cases e1;cases e2;simp only[ZB]at h;obtain⟨zr',h1,rfl⟩:=h;obtain⟨k1,k2,k3⟩:=iw h1;exact⟨fun w=>by
     simp only[ak];exact⟨_,xs,[],[],rfl,by simp only[bN];exact⟨none,0,0,rfl,rfl,Zf _,Ze _,.inl (by simp)⟩,k1 w,rfl⟩,by simp[k2],by simp[k3]⟩
   ·rename_i sz' ss xs' e1 e2;cases e1;cases e2;simp only[ZB]at h;obtain⟨zr',h1,rfl⟩:=h;obtain⟨k1,k2,k3⟩:=iw h1;exact⟨fun w=>by
     simp only[ak];exact⟨_,xs,[],[],rfl,by simp only[bN];exact⟨rfl,trivial⟩,k1 w,rfl⟩,by simp[k2],by simp[k3]⟩
   ·cases h
def hD {P:Program}{t:TypeId}{ti:TI}(h:oO P t=some ti):
 ∃ i z,P.info? t=some i/\i.zero=some z/\i.size=ti.zero.length/\qk ti.slots z.cells.toList=some ti.zero/\∀ w,(isAgg t).run P w=.ok ti.agg w:=by
 unfold oO at h;split at h
 ·rename_i i d sl e1 e2 e3;split at h
  ·rename_i z e4;split at h
   ·rename_i zr e5;split at h
    ·rename_i e6;cases h;refine⟨i,z,e1,e4,e6.symm,e5,fun w=>?_⟩;cases d<;>first|(simp[isAgg,run_underlying e2];done)|(simp[slots,e2]at e3)
    ·cases h
   ·cases h
  ·cases h
 ·cases h
def run_sizeOf {P:Program}{t:TypeId}{i:TypeInfo}(h:P.info? t=some i)(w:World):(sizeOf t).run P w=.ok i.size w:=by simp[sizeOf,typeInfo,h]
def lC {P:Program}{t:TypeId}{ti:TI}(h:oO P t=some ti)(w:World)(b o:Nat)(vs:List Value)(hl:vs.length=ti.zero.length)(h1:ti.agg=false->vs.length=1) 
 (hc:∀ k v,vs[k]?=some v->w.cell? ⟨b,o+k,none⟩=some v):(loadVar t ⟨b,o,none⟩).run P w=.ok (if ti.agg then .agg vs.toArray else vs.getD 0 undef) w:=by
 obtain⟨i,z,e1,e2,e3,e4,e5⟩:=hD h;unfold loadVar;simp only[ZQ,e5,Z2];cases ha:ti.agg with
 | true=>
   simp only[if_true,ZQ,run_sizeOf e1,Z2,e3, <-hl];rw[run_loadCells_list w ⟨b,o,none⟩ vs (fun j v hj=>by rw[add_lit];exact hc j v hj)];simp
 | false=>
   have:=h1 ha
   match vs,this with
   | [v],_=>
     have:=hc 0 v (by simp);simp only[Zi]at this;simp[this]
def fW {w:World}{b:Nat}{cur:Array Value}{ty:TypeId}{fz:Nat×Nat}(h:w.heap[b]?=some (.cells cur ty fz)){base n k:Nat}{v:Value} 
 (hk:((cur.toList.drop base).take n)[k]?=some v):w.cell? ⟨b,base+k,none⟩=some v:=by
 rw[gh h];rw[ZC]at hk;split at hk
 ·rw[Zy,Z1]at hk;exact hk
 ·cases hk
def d9.full {w:World}{sz:Nat}{es:ab}{v:Value}{S:List Nat}(h:bN w (.s sz es) v S):d9 v sz 0 es.length v:=by
 simp only[bN]at h;obtain⟨base,len,cap,q1,q2,q3,q4,q5⟩:=h;refine⟨base,len,cap,base,cap,q1,by rw[q1,q2],Uc,Zf _,fun _ _=>rfl,?_⟩;rcases q5 with⟨e2,_⟩|⟨b,off,cur,ty,fz,S',e1,e2,e3,e4,e5⟩;exact .inl ⟨e2,e2⟩;exact .inr ⟨b,off,off,e1,e1,Zf _,fun _=>by omega⟩
def GP {cx:Cx}{g:Gm}{G:Gh}{a:Act}{w:World}(hS:aO cx G g a w){r j:Nat}{h:Hv}(hh:gl g r j=some h):iC (gl g) G w (J1 r j h) (G.val r j):=by
 have hok:=hS.hok hh;unfold J1;cases hc:h.c with
 | own l=>
   simp only[ew,hc]at hok;cases l with
   |v y=>have:=hok.1;simp only[bN]at this;exact this.1
   |g=>trivial
   |m kb es=>exact⟨h,hh,Zf _,fun _ kb' es' _=>rfl⟩
   | s sz es=>
     refine⟨h,hh,Zf _,fun _ sz' es' e=>?_⟩;rw[hc]at e;cases e;exact⟨Uc,d9.full hok.1⟩
 | ro l=>
   simp only[ew,hc]at hok;obtain⟨S,h1,h2⟩:=hok;cases l with
   |v y=>simp only[bN]at h1;exact h1.1
   |g=>trivial
   |m _ _=>trivial
   |s sz es=>exact⟨S,h1,h2⟩
 |gone=>trivial
def zM {og:Option Nat}{i:Nat}(h:RF og=some i):og=some i/\i/1000000000=1:=by
 unfold RF at h;split at h
 ·split at h
  ·rename_i hb;cases h;exact⟨rfl,Z5 hb⟩
  ·cases h
 ·cases h
def GQ {cx:Cx}{g:Gm}{G:Gh}{a:Act}{w:World}(hS:aO cx G g a w){α:Type}{r j:Nat}{h:Hv}(hh:gl g r j=some h){k:A->Rd α}{ls:List Loc}{o:α}(q:(Bm r j h k).Runs g ls o):
 ∃ x ls',iC (gl g) G w x (G.val r j)/\(k x).Runs g ls' o:=by
 unfold Bm at q;split at q
 ·rename_i hc;split at q
  ·rename_i i hi;obtain⟨h',ls2,e1,e2,q⟩:=bB q;split at q
   ·rename_i sz es hc';split at q
    ·rename_i i' hi';split at q
     ·rename_i hb;have ho:=zM hi;have ho':=zM hi';simp only[Zc]at hb;have b1:=Z5 hb.1;have b2:=Z5 hb.2;have e:i'=i:=by
       unfold Pp LV at b2;unfold LV at b1;have h1:=ho.2;have h2:=ho'.2;omega
      subst e;have v1:=hS.anc _ _ _ hh i' ho.1;have v2:=hS.anc _ _ _ e1 i' ho'.1;refine⟨_,ls2,?_,q⟩;refine⟨h',e1,Zf _,fun _ sz' es' e=>?_⟩;rw[hc']at e;cases e;have hok:=hS.hok e1;simp only[ew,hc']at hok;refine⟨Uc,?_⟩;rw[v1, <-v2];exact d9.full hok.1
     ·exact⟨A.un,ls2,trivial,q⟩
    ·exact⟨A.un,ls2,trivial,q⟩
   ·exact⟨A.un,ls2,trivial,q⟩
  ·exact⟨A.un,ls,trivial,q⟩
 ·exact⟨_,ls,GP hS hh,q⟩
 ·exact⟨_,ls,GP hS hh,q⟩
def jL {cx:Cx}{g:Gm}{G:Gh}{a:Act}{w:World}(hS:aO cx G g a w){α:Type}(r:Nat):∀ (m j:Nat) (k:List A->Rd α) (ls:List Loc) (o:α),
 (fb r j m k).Runs g ls o->∃ as ls',bX (gl g) G w as ((Zl m).map fun i=>G.val r (j+i))/\(∀ i,i<m->∃ h,gl g r (j+i)=some h)/\(k as).Runs g ls' o
 |0,j,k,ls,o,h=>⟨[],ls,by simp[bX],fun i hi=>by omega,by simpa[fb]using h⟩
 | m+1,j,k,ls,o,h=>by
   simp only[fb]at h;obtain⟨h0,ls',e1,_,h⟩:=bB h;obtain⟨x,ls',ex,h⟩:=GQ hS e1 h;obtain⟨as,ls2,e2,e3,e4⟩:=jL hS r m (j+1) _ ls' o h;refine⟨x::as,ls2,?_,?_,e4⟩
   ·rw[List.range_succ_eq_map,ZT,Xr];simp only[bX];refine⟨_,_,rfl,by simpa using ex,?_⟩;have:(fun i=>G.val r (j+i))∘Nat.succ=fun i=>G.val r (j+1+i):=by funext i;simp[YD,X9 1 i]
    rw[this];exact e2
   ·intro i hi;cases i with
    |zero=>exact⟨h0,by simpa using e1⟩
    |succ i=>obtain⟨h',q⟩:=e3 i Uc;exact⟨h',by rw[<-q];congr 1;omega⟩
def bX.length {γ:Nat->Nat->Option Hv}{G:Gh}{w:World}:∀ {as:List A} {vs:List Value},bX γ G w as vs->vs.length=as.length
 |[],vs,h=>by simp only[bX]at h;simp[h]
 | a::as,vs,h=>by
   obtain⟨v,vs',e,_,h2⟩:=h;simp[e,bX.length h2]
def wn {P:Program}{o:Oper}{cx:Cx}{G:Gh}{g:Gm}{a:Act}{w:World}{ls:List Loc}{ws:List W}{ti:TI}{as:List A}{vs:List Value}(hS:aO cx G g a w) 
 (h:(Qr ti as (bE cx.n o.dst)).Runs g ls (.ws ws)) (hx:bX (gl g) G w as vs)
 (hr:(ti.agg=false->vs.length=1)->(execOp a.eval o).run P w=.ok (.value (if ti.agg then .agg vs.toArray else vs.getD 0 undef)) w)
 {K:Act->World->Prop} {Q:Exit->Act->World->Prop} (hk:∀ a' w',fC cx (aT g ws) a' w'->K a' w'):o.wp P a w K Q:=by
 unfold Qr at h;cases ha:ti.agg with
 | true=>
   simp only[ha,if_true]at h;exact bc hS h (by simp only[cW];exact⟨vs,rfl,hx⟩) (by simpa[ha]using hr (by simp[ha])) hk
 | false=>
   simp only[ha,ZI,if_false]at h;split at h
   ·rename_i x;obtain⟨v,vs',e,h1,h2⟩:=hx;simp only[bX]at h2;subst h2;refine bc hS h (v:=v) (by simp only[cW];exact h1) ?_ hk;have:=hr (by simp[e])
    simpa[ha,e]using this
   ·simp[Rd.Runs]at h
def rO {P:Program}{o:Oper}{a:Act}{w:World}{t:TypeId}{x:Operand}(ho:o.op=.load t x){b off:Nat}(he:a.eval x=.pointer (some ⟨b,off,none⟩)){v:Value} 
 (hr:(loadVar t ⟨b,off,none⟩).run P w=.ok v w):(execOp a.eval o).run P w=.ok (.value v) w:=by
 unfold execOp;simp[ho,Instr.loadAt,he,Wb,hr]
def GE:∀ (p:List (Nat×Nat)) (l:L) (rec:ax) (j k:Nat),bT l p=some (rec,j)->bT l (xE p k)=some (rec,j+k)
 |[],l,rec,j,k,h=>by cases l<;>simp[bT]at h
 | [(i,m)],l,rec,j,k,h=>by
   cases l with
   |v y=>simp[bT]at h
   |g=>simp[bT]at h
   |m _ _=>simp[bT]at h
   | s sz es=>
     simp only[bT,ZB]at h;obtain⟨e,h1,h2⟩:=h;cases h2;simp[xE,bT,h1]
 | (i,m)::q::p,l,rec,j,k,h=>by
  cases l with
  |v y=>simp[bT]at h
  |g=>simp[bT]at h
  |m _ _=>simp[bT]at h
  | s sz es=>
    simp only[bT]at h;cases h1:es[i]? with
    |none=>simp[h1]at h
    | some e=>
      simp only[h1]at h;cases h2:e[m]? with
      |none=>simp[h2]at h
      | some l'=>
        simp only[h2]at h;have ih:=GE (q::p) l' rec j k h;cases p with
        |nil=>obtain⟨q1,q2⟩:=q;simp only[xE]at ih ⊢;simp only[bT,h1,h2];exact ih
        |cons q' p=>simp only[xE]at ih ⊢;simp only[bT,h1,h2];exact ih
def vA {w:World}:∀ (p:List (Nat×Nat)) (l:L) (hv:Value) (b o k:Nat),bP w l hv p b o->bP w l hv (xE p k) b (o+k)
 |[],l,hv,b,o,k,h=>by cases l<;>simp[bP]at h
 | [(i,m)],l,hv,b,o,k,h=>by
   cases l with
   |v y=>simp[bP]at h
   |g=>simp[bP]at h
   |m _ _=>simp[bP]at h
   | s sz es=>
     simp only[bP,xE]at h ⊢;obtain⟨b1,off,len,cap,e1,e2,e3,e4⟩:=h;exact⟨b1,off,len,cap,e1,e2,e3,Uc⟩
 | (i,m)::q::p,l,hv,b,o,k,h=>by
  cases l with
  |v y=>simp[bP]at h
  |g=>simp[bP]at h
  |m _ _=>simp[bP]at h
  | s sz es=>
    simp only[bP]at h;obtain⟨b1,off,len,cap,e1,e2,l',v',e3,e4,h⟩:=h;have ih:=vA (q::p) l' v' b o k h;cases p with
    |nil=>obtain⟨q1,q2⟩:=q;simp only[xE]at ih ⊢;simp only[bP]at ih ⊢;exact⟨b1,off,len,cap,e1,e2,l',v',e3,e4,ih⟩
    |cons q' p=>simp only[xE]at ih ⊢;simp only[bP]at ih ⊢;exact⟨b1,off,len,cap,e1,e2,l',v',e3,e4,ih⟩
def LS:∀ (p:List (Nat×Nat)) (k:Nat),p≠[]->xE p k≠[]
 |[],_,h=>absurd rfl h
 |[(_,_)],_,_=>by simp[xE]
 |_::_::_,_,_=>by simp[xE]
def H1:∀ (p:List (Nat×Nat)) (k:Nat),(xE p k).length=p.length
 |[],_=>rfl
 |[(_,_)],_=>rfl
 |_::y::p,k=>by simp[xE,H1 (y::p) k]
def GV {γ:Nat->Nat->Option Hv}{G:Gh}{w:World}{r j:Nat}{h:Hv}(hh:γ r j=some h){p:List (Nat×Nat)}(hp:p≠[]){l:L}(hc:h.c=.own l) 
 {b o:Nat} (ht:bP w l (G.val r j) p b o) {rec:ax} {j0:Nat} (hg:bT l p=some (rec,j0)):
 ∀ (ls:ax) (k:Nat) (vs:List Value) (S:List Nat),ak w ls vs S->(∀ i l',ls[i]?=some l'->rec[j0+k+i]?=some l')->(∀ i v,vs[i]?=some v->w.cell? ⟨b,o+k+i,none⟩=some v)->
  bX γ G w (lc r j h.ver h.iv p k ls) vs
 |[],k,vs,S,hr,_,_=>by simp only[ak]at hr;simp[lc,bX,hr.1]
 | l0::ls,k,vs,S,hr,hrec,hcell=>by
   simp only[ak]at hr;obtain⟨v,vs',S1,S2,rfl,h1,h2,rfl⟩:=hr;have ih:=GV hh hp hc ht hg ls (k+1) vs' S2 h2
    (fun i l' hi=>by have:=hrec (i+1) l' (by simpa using hi);rw[<-this];congr 1;omega)
    (fun i v' hi=>by have:=hcell (i+1) v' (by simpa using hi);rw[<-this];congr 2;omega)
   have c0:w.cell? ⟨b,o+k,none⟩=some v:=by simpa using hcell 0 v (by simp)
   cases l0 with
   |v y=>simp only[lc,bX];refine⟨v,vs',rfl,?_,ih⟩;simp only[bN]at h1;exact h1.1
   |g=>simp only[lc,bX];exact⟨v,vs',rfl,trivial,ih⟩
   |m _ _=>simp only[lc,bX];exact⟨v,vs',rfl,trivial,ih⟩
   | s sz es=>
     simp only[lc,bX];refine⟨v,vs',rfl,⟨h,hh,Zf _,Zf _,LS p k hp,fun _ l1 rec1 o1 sz1 es1 e1 e2 e3=>?_⟩,ih⟩;rw[hc]at e1;cases e1;rw[GE p l rec j0 k hg]at e2;cases e2;have e4:=hrec 0 (.s sz es) (by simp);simp only[Zi]at e4;rw[e4]at e3;cases e3;exact⟨b,o+k,v,vA p l _ b o k ht,c0,Uc,d9.full h1⟩
def wz {γ:Nat->Nat->Option Hv}{G:Gh}{w:World}:∀ (ls:ax) (vs:List Value) (S:List Nat),ak w ls vs S->(∀ b∈S,G.ow b=some .ro)->bX γ G w (ls.map roA) vs
 |[],vs,S,h,_=>by simp only[ak]at h;simp[bX,h.1]
 | l::ls,vs,S,h,ho=>by
   simp only[ak]at h;obtain⟨v,vs',S1,S2,rfl,h1,h2,rfl⟩:=h;simp only[ZT,bX];refine⟨v,vs',rfl,?_,wz ls vs' S2 h2 (fun b hb=>ho b (by simp[hb]))⟩;cases l with
   |v y=>simp only[bN]at h1;exact h1.1
   |g=>trivial
   |m _ _=>trivial
   |s sz es=>exact⟨S1,h1,fun b hb=>ho b (by simp[hb])⟩
def ak.sub {w:World}{ls:ax}{vs:List Value}{S:List Nat}(h:ak w ls vs S)(o m:Nat):∃ S1,ak w ((ls.drop o).take m) ((vs.drop o).take m) S1/\∀ b∈S1,b∈S:=by
 have hl:=h.length;have e1:ls=ls.take o++ls.drop o:=(ZR o ls).symm;rw[e1]at h;obtain⟨S1,S2,rfl,h1,h2⟩:=h.split;have e2:ls.drop o=(ls.drop o).take m++(ls.drop o).drop m:=(ZR m _).symm;rw[e2]at h2;obtain⟨S3,S4,rfl,h3,h4⟩:=h2.split;refine⟨S3,?_,fun b hb=>by simp[hb]⟩;have e3:((vs.drop (ls.take o).length).take ((ls.drop o).take m).length)=(vs.drop o).take m:=by
  apply ZN;intro k;simp only[ZC,Zy,Zm,Zz];by_cases c:o<=ls.length
  ·rw[Xs c];by_cases c2:k<m
   ·by_cases c3:k<ls.length-o
    ·rw[VE Uc,VE c2]
    ·rw[VF Uc,VE c2,ZV Uc]
   ·rw[VF Uc,VF c2]
  ·rw[VF Uc];split
   ·rw[ZV Uc]
   ·rfl
 rw[e3]at h3;exact h3
def xC {P:Program}{o:Oper}{t:TypeId}{x:Operand}(ho:o.op=.load t x)(n:Nat):∀ (cx:Cx),cx.n=n->∀ (G:Gh) (g:Gm) (a:Act) (w:World) (ls:List Loc) (ws:List W),aO cx G g a w->(Hz P n o.dst t x).Runs g ls (.ws ws)->
 ∀ (K:Act->World->Prop) (Q:Exit->Act->World->Prop),(∀ a' w',fC cx (aT g ws) a' w'->K a' w')->o.wp P a w K Q:=by
 rintro cx rfl G g a w ls ws hS h K Q hk;unfold Hz at h;cases hti:oO P t with
 |none=>simp[hti,Rd.Runs]at h
 | some ti=>
   simp only[hti]at h;obtain⟨x0,ls',hx,h⟩:=bA hS h;cases x0 with
   | pt r j=>
     obtain⟨as,ls2,h1,h2,h3⟩:=jL hS r _ _ _ _ _ h;obtain⟨b,off,e1,e2⟩:=hx;refine wn hS h3 h1 (fun hlen=>rO ho e2 ?_) hk;refine lC hti w b (off+j) _ (by simp) hlen ?_;intro k v hv;rw[ZD]at hv;cases hr:(Zl ti.zero.length)[k]? with
     |none=>simp[hr]at hv
     | some k'=>
       simp only[hr,Option.map_some,Ya]at hv;have hk':k'=k/\k<ti.zero.length:=by
        obtain⟨q1,q2⟩:=ZF.1 hr;simp at q1 q2;exact⟨q2.symm,q1⟩
       obtain⟨rfl,hlt⟩:=hk';obtain⟨m,hm⟩:=hS.noloc r _ e1;obtain⟨b',off',cur,ty,f1,f2,f3,f4,f5⟩:=hS.boxes r m hm;rw[e1]at f1;cases f1;obtain⟨hh,hgl⟩:=h2 k' hlt;obtain⟨_,m',bx,_,q2,q3,_⟩:=hS.leaf r (j+k') _ (av.1 hgl);rw[hm]at q2;cases q2;rw[gh f3, <-hv];rw[show off+j+k'=off+(j+k')from by omega];exact f5 _ q3
   | pn r j ver iv p=>
     obtain⟨h0,ls2,e1,_,h⟩:=bB h;split at h
     ·rename_i hgood;cases hc:h0.c with
      | own l=>
        simp only[hc]at h;cases hg:bT l p with
        |none=>simp[hg,Rd.Runs]at h
        | some pr=>
          obtain⟨rec,j0⟩:=pr;simp only[hg,Rd.Runs]at h;obtain⟨hlen,h⟩:=h;obtain⟨h1,f1,f2,f3,f4,f5⟩:=hx;rw[e1]at f1;cases f1;obtain⟨b,off,g1,g2⟩:=f5 hgood l hc;have hok:=hS.hok e1;simp only[ew,hc]at hok;obtain⟨cur,ty,fz,base,Sa,S1,Sb,m1,m2,m3,m4,m5,m6,_⟩:=focus p l _ _ b off rec j0 hok.1 hok.2.1 g1 hg;obtain⟨S2,k1,k2⟩:=m6.sub j0 ti.zero.length;have hver:h0.ver=ver:=(rq.1 hgood).1;have hcells:∀ i v,((((cur.toList.drop base).take rec.length).drop j0).take ti.zero.length)[i]?=some v->w.cell? ⟨b,off+0+i,none⟩=some v:=by
           intro i v hv;rw[ZC]at hv;split at hv
           ·rw[Zy]at hv;have:=fW m1 hv;rw[m4, <-this];congr 2;omega
           ·cases hv
          have hAs:=GV e1 f4 hc g1 hg _ 0 _ S2 k1 (by
           intro i l' hi;rw[ZC]at hi;split at hi
           ·rw[Zy]at hi;simpa using hi
           ·cases hi) hcells
          rw[hver]at hAs;refine wn hS h hAs (fun hlen1=>rO ho g2 ?_) hk;refine lC hti w b off _ ?_ hlen1 (fun k v hv=>by simpa using hcells k v hv);rw[k1.length];simp only[Zm,Zz];omega
      |ro l=>simp[hc,Rd.Runs]at h
      |gone=>simp[hc,Rd.Runs]at h
     ·simp[Rd.Runs]at h
   | rp rec j=>
     simp only[Rd.Runs]at h;obtain⟨hlen,h⟩:=h;obtain⟨b,off,cur,ty,fz,S,e1,e2,e3,e4,e5,e6⟩:=hx;obtain⟨S2,k1,k2⟩:=e5.sub j ti.zero.length;refine wn hS h (wz _ _ S2 k1 (fun c hc=>e6 c (k2 c hc))) (fun hlen1=>rO ho e1 ?_) hk;refine lC hti w b (off+j) _ ?_ hlen1 ?_
     ·rw[k1.length];simp only[Zm,Zz];omega
     ·intro k v hv;rw[ZC]at hv;split at hv
      ·rw[Zy]at hv;have:=fW e2 hv;rw[<-this];congr 2;omega
      ·cases hv
   |_=>simp[Rd.Runs]at h
end Go.V
namespace Go.V
def PV {P:Program}{s:TypeId}{f off:Nat}(h:fdI P s f=some off)(w:World)(b o:Nat):
 (WL s (.pointer (some ⟨b,o,none⟩)) f).run P w=.ok (.pointer (some ⟨b,o+off,none⟩)) w:=by
 unfold fdI at h;split at h
 ·rename_i fs e1;split at h
  ·rename_i fd e2;split at h
   ·rename_i i e3;split at h
    ·cases h
    ·rename_i e4;cases h;simp[WL,run_underlying e1,e2,Wb,fieldPlace,run_sizeOf e3,e4,add_lit]
   ·cases h
  ·cases h
 ·cases h
def oX {P:Program}{t e:TypeId}{ti:TI}{bytes:Nat}(h:Gu P t=some (e,ti,bytes)):
 P.underlying t=some (.slice e)/\oO P e=some ti/\∃ i,P.info? e=some i/\i.bytes=bytes/\0<i.size/\i.size=ti.zero.length:=by
 unfold Gu at h;split at h
 ·rename_i e' e1;split at h
  ·rename_i ti' i e2 e3;split at h
   ·rename_i e4;cases h;obtain⟨i',z,f1,_,f3,_⟩:=hD e2;rw[e3]at f1;cases f1;exact⟨e1,e2,i,e3,rfl,e4,f3⟩
   ·cases h
  ·cases h
 ·cases h
def xd {P:Program}{t e:TypeId}{ti:TI}{bytes:Nat}(h:Gu P t=some (e,ti,bytes))(w:World)(b o len cap:Nat)(k:IntKind)(i:Int)(h0:0<=i)(h1:i<len):
 (WM t (.slice (some ⟨b,o,none⟩) len cap) (.int k i)).run P w=.ok (.pointer (some ⟨b,o+i.toNat*ti.zero.length,none⟩)) w:=by
 obtain⟨e1,e2,inf,e3,e4,e5,e6⟩:=oX h;simp[WM,asIntOf,run_underlying e1,h0,h1,run_sizeOf e3,e6,add_lit]
def zK {w:World}:∀ (p:List (Nat×Nat)) (l:L) (hv:Value) (b o:Nat) (rec:ax) (j0:Nat),bP w l hv p b o->bT l p=some (rec,j0)->
 ∀ (sz:Nat) (es:ab) (b2 off2 len cap i:Nat),rec[j0]?=some (.s sz es)->w.cell? ⟨b,o,none⟩=some (.slice (some ⟨b2,off2,none⟩) len cap)->i<es.length->
  bP w l hv (p++[(i,0)]) b2 (off2+i*sz)
 |[],l,hv,b,o,rec,j0,h,_=>by cases l<;>simp[bP]at h
 | [(a,m)],l,hv,b,o,rec,j0,h,hg=>by
   intro sz es b2 off2 len cap i hr hc hi;cases l with
   |v y=>simp[bP]at h
   |g=>simp[bP]at h
   |m _ _=>simp[bP]at h
   | s sz0 es0=>
     simp only[bP]at h;obtain⟨b1,off,len1,cap1,e1,e2,e3,e4⟩:=h;subst e3 e4;simp only[bT,ZB]at hg;obtain⟨e,h1,h2⟩:=hg;cases h2;simp only[ZP,ZJ,bP];exact⟨b,off,len1,cap1,e1,e2,.s sz es,_,by simp[h1,hr],hc,b2,off2,len,cap,rfl,hi,rfl,Uc⟩
 | (a,m)::q::p,l,hv,b,o,rec,j0,h,hg=>by
  intro sz es b2 off2 len cap i hr hc hi;cases l with
  |v y=>simp[bP]at h
  |g=>simp[bP]at h
  |m _ _=>simp[bP]at h
  | s sz0 es0=>
    simp only[bP]at h;obtain⟨b1,off,len1,cap1,e1,e2,l',v',e3,e4,h⟩:=h;cases h1:es0[a]? with
    |none=>simp[h1]at e3
    | some e=>
      simp only[h1,YC]at e3;simp only[bT,h1,e3]at hg;have:=zK (q::p) l' v' b o rec j0 h hg sz es b2 off2 len cap i hr hc hi;simp only[ZP,bP]at this ⊢;exact⟨b1,off,len1,cap1,e1,e2,l',v',by simp[h1,e3],e4,this⟩
section
variable {P: Program} {o: Oper} {cx: Cx} {G: Gh} {g: Gm} {a: Act} {w: World} {ls: List Loc} {ws: List W} {K: Act -> World -> Prop} {Q: Exit -> Act -> World -> Prop}
def wO {s:TypeId}{x:Operand}{f:Nat}(ho:o.op=.fieldAddr s x f)(hS:aO cx G g a w)(h:(mV P cx.n o.dst s x f).Runs g ls (.ws ws)) 
 (hk:∀ a' w',fC cx (aT g ws) a' w'->K a' w'):o.wp P a w K Q:=by
 unfold mV at h;cases hf:fdI P s f with
 |none=>simp[hf,Rd.Runs]at h
 | some off=>
   simp only[hf]at h;obtain⟨x0,ls',hx,h⟩:=bA hS h;have run:∀ b o0,a.eval x=.pointer (some ⟨b,o0,none⟩)->(execOp a.eval o).run P w=.ok (.value (.pointer (some ⟨b,o0+off,none⟩))) w:=by
    intro b o0 he;unfold execOp;simp[ho,he,PV hf]
   cases x0 with
   | pt r j=>
     obtain⟨b,o0,e1,e2⟩:=hx;exact bc hS h (v:=.pointer (some ⟨b,o0+j+off,none⟩)) (by simp only[cW];exact⟨b,o0,e1,by rw[YD]⟩) (run _ _ e2) hk
   | rp rec j=>
     obtain⟨b,o0,cur,ty,fz,S,e1,e2,e3,e4,e5,e6⟩:=hx;exact bc hS h (v:=.pointer (some ⟨b,o0+j+off,none⟩)) (by simp only[cW];exact⟨b,o0,cur,ty,fz,S,by rw[YD],e2,e3,e4,e5,e6⟩) (run _ _ e1) hk
   | pn r j ver iv p=>
     obtain⟨hv,ls2,q1,_,h⟩:=bB h;cases hc:hv.c with
     | own l=>
       simp only[hc]at h;split at h
       ·rename_i hgood;obtain⟨h0,e1,e2,e3,e4,e5⟩:=hx;rw[q1]at e1;cases e1;obtain⟨b,o0,f1,he⟩:=e5 hgood l hc;refine bc hS h (v:=.pointer (some ⟨b,o0+off,none⟩)) ?_ (run _ _ he) hk;simp only[cW];refine⟨hv,q1,e2,e3,LS p off e4,fun hg l' hl=>?_⟩;rw[hc]at hl;cases hl;exact⟨b,o0+off,vA p l _ b o0 off f1,rfl⟩
       ·simp[Rd.Runs]at h
     |ro l=>simp[hc,Rd.Runs]at h
     |gone=>simp[hc,Rd.Runs]at h
   |_=>simp[Rd.Runs]at h
end
def bH.nth {w:World}{sz:Nat}{es:ab}{vs:List Value}{S:List Nat}(h:bH w sz es vs S){i:Nat}(hi:i<es.length):
 ∃ S1,ak w (es.getD i []) ((vs.drop (i*sz)).take sz) S1/\(es.getD i []).length=sz/\∀ b∈S1,b∈S:=by
 obtain⟨Sa,S1,Sb,e1,e2,e3⟩:=h.at i es[i] (by simp[hi]);have:es.getD i []=es[i]:=by simp[Zv,hi]
 rw[this];exact⟨S1,e3,e2,fun b hb=>by rw[e1];simp[hb]⟩
def bH.sub {w:World}{sz:Nat}:∀ {es:ab} {vs:List Value} {S:List Nat},bH w sz es vs S->∀ (l m:Nat),
 ∃ S1,bH w sz ((es.drop l).take m) ((vs.drop (l*sz)).take (((es.drop l).take m).length*sz)) S1/\∀ b∈S1,b∈S
 | [],vs,S,h,l,m=>by
   simp only[bH]at h;exact⟨[],by simp[bH],fun b hb=>by cases hb⟩
 |e::es,vs,S,h,0,0=>⟨[],by simp[bH],fun b hb=>by cases hb⟩
 | e::es,vs,S,h,0,m+1=>by
   simp only[bH]at h;obtain⟨v1,v2,S1,S2,rfl,hl,h1,h2,rfl⟩:=h;obtain⟨S3,k1,k2⟩:=bH.sub h2 0 m;refine⟨S1++S3,?_,fun b hb=>?_⟩
   ·simp only[Wc,Y6,XG,Zp,bH]at k1 ⊢;refine⟨v1,v2.take ((es.take m).length*sz),S1,S3,?_,hl,h1,k1,rfl⟩;rw[Xp,Yj (by rw[hl,Zs];omega),hl,Zs]
    congr 2;omega
   ·rcases Zg.1 hb with hb|hb
    ·simp[hb]
    ·simp[k2 b hb]
 | e::es,vs,S,h,l+1,m=>by
   simp only[bH]at h;obtain⟨v1,v2,S1,S2,rfl,hl,h1,h2,rfl⟩:=h;obtain⟨S3,k1,k2⟩:=bH.sub h2 l m;refine⟨S3,?_,fun b hb=>by simp[k2 b hb]⟩;have:(v1++v2).drop ((l+1)*sz)=v2.drop (l*sz):=by
    rw[XE,Y1 (by rw[hl,Zs];omega),ZJ,hl,Zs]
    congr 1;omega
   simp only[WN];rw[this];exact k1
section
variable {P: Program} {o: Oper} {cx: Cx} {G: Gh} {g: Gm} {a: Act} {w: World} {ls: List Loc} {ws: List W} {K: Act -> World -> Prop} {Q: Exit -> Act -> World -> Prop}
def pk {t:TypeId}{x i:Operand}(ho:o.op=.indexAddr t x i)(hS:aO cx G g a w)(h:(mW P cx.n o.dst t x i).Runs g ls (.ws ws)) 
 (hk:∀ a' w',fC cx (aT g ws) a' w'->K a' w'):o.wp P a w K Q:=by
 unfold mW at h;cases hel:Gu P t with
 |none=>simp[hel,Rd.Runs]at h
 | some pr=>
   obtain⟨e,ti,bytes⟩:=pr;simp only[hel]at h;obtain⟨x0,ls',hx,h⟩:=bA hS h;obtain⟨kd,idx,ls2,hi,h⟩:=eR hS h;have run:∀ b o0 len cap,a.eval x=.slice (some ⟨b,o0,none⟩) len cap->0<=idx->idx<len->
    (execOp a.eval o).run P w=.ok (.value (.pointer (some ⟨b,o0+idx.toNat*ti.zero.length,none⟩))) w:=by
    intro b o0 len cap he h0 h1;unfold execOp;simp[ho,he,hi,xd hel w b o0 len cap kd idx h0 h1]
   cases x0 with
   | ro sz es=>
     simp only at h;split at h
     ·rename_i hsz;simp only[beq_iff_eq]at hsz;simp only[Rd.Runs]at h;obtain⟨⟨h0,h1⟩,h⟩:=h;obtain⟨S,k1,k2⟩:=hx;simp only[bN]at k1;obtain⟨base,len,cap,q1,q2,q3,q4,q5⟩:=k1;rcases q5 with⟨_,e2,_⟩|⟨b,off,cur,ty,fz,S',f1,f2,f3,f4,f5⟩;omega
      subst f1 f5;have hlt:idx.toNat<es.length:=by omega
      obtain⟨S1,m1,m2,m3⟩:=f4.nth hlt;have hcap:(idx.toNat+1)*sz<=cap*sz:=Z4 _ Uc;have hlen:(idx.toNat+1)*sz<=len*sz:=Z4 _ Uc;have hexp:(idx.toNat+1)*sz=idx.toNat*sz+sz:=by rw[Zs];omega
      refine bc hS h (v:=.pointer (some ⟨b,off+idx.toNat*ti.zero.length,none⟩)) ?_ (run b off len cap q1 h0 Uc) hk;simp only[cW];refine⟨b,off+idx.toNat*ti.zero.length,cur,ty,fz,S1,rfl,f2,k2 b (by simp),by rw[m2, <-hsz];omega,?_,fun c hc=>k2 c (by simp[m3 c hc])⟩;have:(cur.toList.drop (off+idx.toNat*ti.zero.length)).take (es.getD idx.toNat []).length=(((cur.toList.drop off).take (len*sz)).drop (idx.toNat*sz)).take sz:=by
       apply ZN;intro k;rw[m2, <-hsz];simp only[ZC,Zy];by_cases c:k<sz
       ·simp only[c,if_true];rw[VE Uc];congr 1;omega
       ·simp[c]
      rw[this];exact m1
     ·simp[Rd.Runs]at h
   | vw r j ver lo m=>
     simp only at h;obtain⟨hv,ls3,q1,_,h⟩:=bB h;split at h
     ·rename_i sz es hc;split at h
      ·rename_i hb;simp only[Zc,beq_iff_eq]at hb;obtain⟨hver,hsz⟩:=hb;simp only[Rd.Runs]at h;obtain⟨⟨h0,h1⟩,h⟩:=h;obtain⟨h2,f1,f2,f3⟩:=hx;rw[q1]at f1;cases f1;obtain⟨f4,base,len,cap,base',cap',g1,g2,g3,g4,g5,g6⟩:=f3 hver sz es hc;rcases g6 with⟨_,_,g7⟩|⟨b,off,off',g7,g8,g9,g10⟩;omega
       subst g7 g8;have hoff:=g10 Uc;refine bc hS h (v:=.pointer (some ⟨b,off'+idx.toNat*ti.zero.length,none⟩)) ?_ (run b off' m cap' g2 h0 Uc) hk;simp only[cW];refine⟨hv,q1,f2,Zf _,by simp,fun _ l hl=>⟨b,off'+idx.toNat*ti.zero.length,?_,rfl⟩⟩;rw[hc]at hl;cases hl;simp only[bP];exact⟨b,off,len,cap,g1,Uc,rfl,by rw[hoff, <-hsz,Zs];omega⟩
      ·simp[Rd.Runs]at h
     ·simp[Rd.Runs]at h
   | vn r j ver iv p lo m=>
     simp only at h;obtain⟨hv,ls3,q1,_,h⟩:=bB h;split at h
     ·rename_i l hc;split at h
      ·rename_i hgood;cases hg:bT l p with
       |none=>simp[hg,Rd.Runs]at h
       | some pr=>
         obtain⟨rec,j0⟩:=pr;simp only[hg]at h;split at h
         ·rename_i sz es hrec;split at h
          ·rename_i hsz;simp only[beq_iff_eq]at hsz;simp only[Rd.Runs]at h;obtain⟨⟨h0,h1⟩,h⟩:=h;obtain⟨h2,f1,f2,f2',fne,f3⟩:=hx;rw[q1]at f1;cases f1;obtain⟨bb,oo,hvv,f4,f5,f6,base,len,cap,base',cap',g1,g2,g3,g4,g5,g6⟩:=f3 hgood l rec j0 sz es hc hg hrec;rcases g6 with⟨_,_,g7⟩|⟨b,off,off',g7,g8,g9,g10⟩;omega
           subst g7 g8;have hoff:=g10 Uc;refine bc hS h (v:=.pointer (some ⟨b,off'+idx.toNat*ti.zero.length,none⟩)) ?_ (run b off' m cap' g2 h0 Uc) hk;simp only[cW];refine⟨hv,q1,f2,f2',by simp,fun _ l' hl=>⟨b,off'+idx.toNat*ti.zero.length,?_,rfl⟩⟩;rw[hc]at hl;cases hl;have:=zK p l _ bb oo rec j0 f4 hg sz es b off len cap (lo+idx.toNat) hrec (by rw[f5,g1]) Uc;rw[hoff, <-hsz];rw[Zs]at this;rw[YD];exact this
          ·simp[Rd.Runs]at h
         ·simp[Rd.Runs]at h
      ·simp[Rd.Runs]at h
     ·simp[Rd.Runs]at h
   |_=>simp[Rd.Runs]at h
def jU (hS:aO cx G g a w){α:Type}{x:Option Operand}{dflt:Int}{k:Int->Rd α}{out:α}(h:(hK x dflt k).Runs g ls out):
 ∃ i ls',(k i).Runs g ls' out/\((x=none/\i=dflt)\/∃ x0 kd,x=some x0/\a.eval x0=.int kd i):=by
 unfold hK at h;cases x with
 |none=>exact⟨dflt,ls,h,.inl ⟨rfl,rfl⟩⟩
 | some x=>
   obtain⟨kd,n,ls',e,h⟩:=eR hS h;exact⟨n,ls',h,.inr ⟨x,kd,rfl,e⟩⟩
def D4 {t e:TypeId}{ti:TI}{bytes:Nat}(h:Gu P t=some (e,ti,bytes)){x:Operand}{lo hi:Option Operand}(base:Option Addr)(len cap:Nat)(he:a.eval x=.slice base len cap) 
 (l hh:Int) (hl:(lo=none/\l=0)\/∃ x0 kd,lo=some x0/\a.eval x0=.int kd l) (hhi:(hi=none/\hh=len)\/∃ x0 kd,hi=some x0/\a.eval x0=.int kd hh)
 (h0:0<=l) (h1:l<=hh) (h2:hh<=cap) (ho:o.op=.slice t x lo hi none):
 (execOp a.eval o).run P w=.ok (.value (.slice (if cap=l.toNat then base else base.map (·.add (l.toNat*ti.zero.length))) (hh.toNat-l.toNat) (cap-l.toNat))) w:=by
 obtain⟨e1,e2,inf,e3,e4,e5,e6⟩:=oX h;have s1:(Xt true len cap (lo.map a.eval) (hi.map a.eval) none).run P w=.ok (l.toNat,hh.toNat,cap) w:=by
  have n1:0<=hh:=by omega
  have n2:max hh 0=hh:=by omega
  rcases hl with⟨rfl,rfl⟩|⟨x1,k1,rfl,r1⟩<;>rcases hhi with⟨rfl,rfl⟩|⟨x2,k2,rfl,r2⟩
  ·simp[Xt]
  ·simp[Xt,Wd,r2,asIntOf,n1,h2]
  ·simp[Xt,Wd,r1,asIntOf,h0,h1]
  ·simp[Xt,Wd,r1,r2,asIntOf,h0,n1,h2,n2,h1]
 unfold execOp;simp[ho,Instr.sliceAt,run_underlying e1,Instr.slice,he,s1,run_sizeOf e3,e6]
end
section
variable {P: Program} {o: Oper} {cx: Cx} {G: Gh} {g: Gm} {a: Act} {w: World} {ls: List Loc} {ws: List W} {K: Act -> World -> Prop} {Q: Exit -> Act -> World -> Prop}
def bN.part {sz:Nat}{es:ab}{base:Option Addr}{len cap:Nat}{S:List Nat}(hr:bN w (.s sz es) (.slice base len cap) S)(l h:Nat)(h1:l<=h)(h2:h<=len):
 ∃ S1,bN w (.s sz ((es.take h).drop l)) (.slice (if cap=l then base else base.map (·.add (l*sz))) (h-l) (cap-l)) S1/\∀ b∈S1,b∈S:=by
 simp only[bN]at hr;obtain⟨base0,len0,cap0,q1,q2,q3,q4,q5⟩:=hr;cases q1;have hlen:((es.take h).drop l).length=h-l:=by simp only[Zz,Zm];omega
 rcases q5 with⟨e2,e3⟩|⟨b,off,cur,ty,fz,S',f1,f2,f3,f4,f5⟩
 ·subst e2;refine⟨[],?_,fun b hb=>by cases hb⟩;simp only[bN];exact⟨_,_,_,rfl,Uc,Uc,Uc,.inl ⟨Uc,trivial⟩⟩
 ·subst f1 f5;obtain⟨S1,k1,k2⟩:=f4.sub l (h-l);have htd:(es.take h).drop l=(es.drop l).take (h-l):=by rw[List.drop_take]
  rw[htd]at hlen ⊢;by_cases c:cap=l
  ·have:h-l=0:=by omega
   rw[VE c];refine⟨[b],?_,fun x hx=>by simp at hx;simp[hx]⟩;simp only[bN];have hes:(es.drop l).take (h-l)=[]:=by rw[this];simp
   rw[hes];exact⟨_,_,_,rfl,by simp[this],Uc,Uc,.inr ⟨b,off,cur,ty,fz,[],rfl,f2,by rw[c]at f3 ⊢;simp;omega,by simp[bH,this],rfl⟩⟩
  ·rw[VF c];refine⟨b::S1,?_,fun x hx=>by
    rcases Zk.1 hx with rfl|hx
    ·simp
    ·simp[k2 x hx]⟩
   simp only[bN];have hm:(cap-l)*sz+l*sz=cap*sz:=by rw[<-Zs];congr 1;omega
   refine⟨_,_,_,rfl,hlen.symm,Uc,Uc,.inr ⟨b,off+l*sz,cur,ty,fz,S1,by simp[add_lit],f2,Uc,?_,rfl⟩⟩;have hl2:(h-l)*sz+l*sz<=len*sz:=by rw[<-Zs];exact Z4 _ Uc
   have:(cur.toList.drop (off+l*sz)).take ((h-l)*sz)=(((cur.toList.drop off).take (len*sz)).drop (l*sz)).take (((es.drop l).take (h-l)).length*sz):=by
    apply ZN;intro k;rw[hlen];simp only[ZC,Zy];by_cases ck:k<(h-l)*sz
    ·simp only[ck,if_true];rw[VE Uc];congr 1;omega
    ·simp[ck]
   rw[this];exact k1
def FW {t:TypeId}{x:Operand}{lo hi mx:Option Operand}(ho:o.op=.slice t x lo hi mx)(hS:aO cx G g a w)(h:(Ce P cx.n o.dst t x lo hi mx).Runs g ls (.ws ws)) 
 (hk:∀ a' w',fC cx (aT g ws) a' w'->K a' w'):o.wp P a w K Q:=by
 unfold Ce at h;split at h
 ·rename_i e ti bytes hel;obtain⟨x0,ls',hx,h⟩:=bA hS h;cases x0 with
  | ro sz es=>
    simp only at h;split at h
    ·rename_i hsz;simp only[beq_iff_eq]at hsz;obtain⟨l,ls2,h,hl⟩:=jU hS h;obtain⟨hh,ls3,h,hhi⟩:=jU hS h;simp only[Rd.Runs]at h;obtain⟨⟨h0,h1,h2⟩,h⟩:=h;obtain⟨S,k1,k2⟩:=hx;have k1':=k1;simp only[bN]at k1;obtain⟨base,len,cap,q1,q2,q3,q4,_⟩:=k1;rw[q1]at k1';obtain⟨S1,m1,m2⟩:=k1'.part l.toNat hh.toNat Uc Uc;refine bc hS h ?_ (D4 hel base len cap q1 l hh hl (by rw[q2];exact hhi) h0 h1 Uc ho) hk;simp only[cW];rw[<-hsz];exact⟨S1,m1,fun b hb=>k2 b (m2 b hb)⟩
    ·simp[Rd.Runs]at h
  | vw r j ver lo0 m=>
    simp only at h;obtain⟨hv,ls3,q1,_,h⟩:=bB h;split at h
    ·rename_i sz es hc;split at h
     ·rename_i hb;simp only[Zc,beq_iff_eq]at hb;obtain⟨hver,hsz⟩:=hb;obtain⟨l,ls2,h,hl⟩:=jU hS h;obtain⟨hh,ls3,h,hhi⟩:=jU hS h;simp only[Rd.Runs]at h;obtain⟨⟨h0,h1,h2⟩,h⟩:=h;obtain⟨h2',f1,f2,f3⟩:=hx;rw[q1]at f1;cases f1;obtain⟨f4,base,len,cap,base',cap',g1,g2,g3,g4,g5,g6⟩:=f3 hver sz es hc;refine bc hS h ?_ (D4 hel base' m cap' g2 l hh hl hhi h0 h1 Uc ho) hk;simp only[cW];refine⟨hv,q1,f2,fun _ sz' es' hc'=>?_⟩;rw[hc]at hc';cases hc';refine⟨Uc,?_⟩;have hcm:(cap'-l.toNat)*sz+l.toNat*sz=cap'*sz:=by rw[<-Zs];congr 1;omega
      refine⟨base,len,cap,_,_,g1,rfl,Uc,Uc,?_,?_⟩
      ·intro e1 e2;have e3:l.toNat=0:=by omega
       have e4:lo0=0:=by omega
       have e5:m=len:=by
        have hok:=hS.hok q1;simp only[ew,hc,bN]at hok;obtain⟨⟨b0,n0,c0,r1,r2,_⟩,_⟩:=hok;rw[g1]at r1;cases r1;omega
       have:=g5 e4 e5;rw[<-this,g2];have e6:hh.toNat=m:=by omega
       rw[e3,e6];have:(if cap'=0 then base' else base'.map (·.add (0*ti.zero.length)))=base':=by
        split;rfl
        ·cases base'<;>simp[Xq]
       simp only[this,Nat.sub_zero]
      ·rcases g6 with⟨r1,r3⟩|⟨b,off,off',r1,r2,r3,r4⟩;exact .inl ⟨r1,Uc⟩
       ·subst r1 r2;by_cases c:cap'=l.toNat
        ·rw[VE c];exact .inr ⟨b,off,off',rfl,rfl,by rw[c];simp;rw[c]at r3;omega,fun hp=>by omega⟩
        ·rw[VF c];refine .inr ⟨b,off,off'+l.toNat*sz,rfl,by simp[add_lit,hsz],Uc,fun hp=>?_⟩;have:=r4 Uc;rw[this,Zs];omega
     ·simp[Rd.Runs]at h
    ·simp[Rd.Runs]at h
  |_=>simp[Rd.Runs]at h
 ·simp[Rd.Runs]at h
def MO {op:BinOp}{k:IntKind}{x y:Int}{c:Prop}{v:Value}(h:MN op k x y=some (c,v))(hc:c)(t:TypeId):(binOp op t (.int k x) (.int k y)).run P w=.ok v w:=by
 cases op<;>simp only[MN,Ya,XH,reduceCtorEq]at h<;>obtain⟨rfl,rfl⟩:=h<;>
  (simp only[binOp];rw[VF (by simp)])<;>
  first
  |rfl
  |(unfold Op.intDiv;rw[VF hc];rfl)
def Iq {op:BinOp}{k k':IntKind}{x y:Int}{v:Value}(h:Bh op k x y=some v)(hc:0<=y)(t:TypeId):(binOp op t (.int k x) (.int k' y)).run P w=.ok v w:=by
 have:¬ y<0:=by omega
 cases op<;>simp only[Bh,Ya,reduceCtorEq]at h<;>subst h<;>simp[binOp,Op.shift,this]
def wV {op:BinOp}{t:TypeId}{x y:Operand}{k k':IntKind}{m n:Int}:(eqGuard op t x y (.int k m) (.int k' n)).run P w=.ok () w:=by
 cases op<;>simp[eqGuard]
def uy {op:BinOp}{t:TypeId}{x y:Operand}{m n:Bool}:(eqGuard op t x y (.bool m) (.bool n)).run P w=.ok () w:=by
 cases op<;>simp[eqGuard]
def run_equalIn_bool {t:TypeId}(hu:P.underlying t=some .bool)(d:Nat)(m n:Bool):(Op.equalIn (d+1) t (.bool m) (.bool n)).run P w=.ok (m==n) w:=by
 simp[Op.equalIn,run_underlying hu]
def B6 {op:BinOp}{t t':TypeId}{x y:Operand}(ho:o.op=.binOp op t x y t')(hS:aO cx G g a w)(h:(Lq P cx.n o.dst op t x y).Runs g ls (.ws ws)) 
 (hk:∀ a' w',fC cx (aT g ws) a' w'->K a' w'):o.wp P a w K Q:=by
 unfold Lq at h;obtain⟨x0,ls',hx,h⟩:=bA hS h;obtain⟨y0,ls2,hy,h⟩:=bA hS h;have int_case:∀ k m k' n,x0=.v (.int k m)->y0=.v (.int k' n)->o.wp P a w K Q:=by
  rintro k m k' n rfl rfl;have hx':a.eval x=.int k m:=hx;have hy':a.eval y=.int k' n:=hy;simp only at h;split at h
  ·rename_i v hs;simp only[Rd.Runs]at h;refine bc hS h.2 (v:=v) (by simp[cW,iC]) ?_ hk;unfold execOp;simp[ho,hx',hy',wV,Iq hs h.1]
  ·split at h
   ·rename_i hkk;subst hkk;split at h
    ·rename_i c v hb;simp only[Rd.Runs]at h;refine bc hS h.2 (v:=v) (by simp[cW,iC]) ?_ hk;unfold execOp;simp[ho,hx',hy',wV,MO hb h.1]
    ·simp[Rd.Runs]at h
   ·simp[Rd.Runs]at h
 have bool_case:∀ m n,x0=.v (.bool m)->y0=.v (.bool n)->o.wp P a w K Q:=by
  rintro m n rfl rfl;have hx':a.eval x=.bool m:=hx;have hy':a.eval y=.bool n:=hy;simp only at h;split at h
  ·rename_i hb;have hu:P.underlying t=some .bool:=by
    unfold zo at hb;split at hb
    ·assumption
    ·cases hb
   have heq:(Op.equal t (.bool m) (.bool n)).run P w=.ok (m==n) w:=run_equalIn_bool hu 9999 m n;split at h
   ·refine bc hS h (v:=.bool (m==n)) (by simp[cW,iC]) ?_ hk;unfold execOp;simp[ho,hx',hy',uy,binOp,heq]
   ·refine bc hS h (v:=.bool (m !=n)) (by simp[cW,iC]) ?_ hk;unfold execOp;simp[ho,hx',hy',uy,binOp,heq,bne]
   ·simp[Rd.Runs]at h
  ·simp[Rd.Runs]at h
 split at h
 ·exact int_case _ _ _ _ rfl rfl
 ·exact bool_case _ _ rfl rfl
 ·simp[Rd.Runs]at h
def Mi {t:TypeId}{k:Bool}(h:cmL P t=some k):(isAgg t).run P w=.ok false w/\(k=false->∃ k,P.underlying t=some (.int k))/\(k=true->P.underlying t=some .bool):=by
 unfold cmL at h;split at h
 ·rename_i k e;cases h;exact⟨by simp[isAgg,run_underlying e],(fun _=>⟨k,e⟩),(fun h=>by cases h)⟩
 ·rename_i e;cases h;exact⟨by simp[isAgg,run_underlying e],(fun h=>by cases h),fun _=>e⟩
 ·cases h
def Mo {γ:Nat->Nat->Option Hv}{d:Nat}{xs ys:Array Value}:∀ {ks:List Bool} {as bs:List A} {vs us:List Value} {r:Bool},pM cM F2 Fy ks as bs=some r->bX γ G w as vs->bX γ G w bs us->
 ∀ (fs:List Field) (j:Nat),PL P j fs=some ks->(∀ i v,vs[i]?=some v->xs[j+i]?=some v)->(∀ i v,us[i]?=some v->ys[j+i]?=some v)->(Op.eqFields (d+1) xs ys fs).run P w=.ok r w:=by
 intro ks
 induction ks with
 | nil=>
   intro as bs vs us r h h1 h2 fs j hf hx hy;cases fs with
   | nil=>
     cases as<;>cases bs<;>simp only[pM,Ya,reduceCtorEq]at h
     subst h;rfl
   | cons f fs=>
     simp only[PL]at hf;split at hf
     ·split at hf<;>cases hf
     ·cases hf
 | cons kb ks ih=>
   intro as bs vs us r h h1 h2 fs j hf hx hy;cases fs with
   |nil=>simp[PL]at hf
   | cons f fs=>
     simp only[PL]at hf;split at hf
     case isFalse=>cases hf
     rename_i hno;simp only[Zc,bne_iff_ne,beq_iff_eq]at hno;obtain⟨hn,ho⟩:=hno;split at hf
     case h_2=>cases hf
     rename_i k0 ks0 hc hf';cases hf;obtain⟨q1,q2,q3⟩:=Mi (w:=w) hc;cases as with
     |nil=>cases kb<;>simp[pM]at h
     |cons a0 as=>
     cases bs with
     |nil=>cases kb<;>cases a0<;>simp[pM]at h
     |cons b0 bs=>
     obtain⟨v,vs',rfl,a1,h1⟩:=h1;obtain⟨u,us',rfl,a2,h2⟩:=h2;have px:(part f.type xs f.offset).run P w=.ok v w:=by
      have e:=hx 0 v rfl;simp[part,q1,ho,(show xs[j]?=some v from e),Z6]
     have py:(part f.type ys f.offset).run P w=.ok u w:=by
      have e:=hy 0 u rfl;simp[part,q1,ho,(show ys[j]?=some u from e),Z6]
     have ih':∀ {r},pM cM F2 Fy ks as bs=some r->(Op.eqFields (d+1) xs ys fs).run P w=.ok r w:=fun {r} e=>ih e h1 h2 fs (j+1) hf'
      (fun i v hi=>by have:=hx (i+1) v (by simpa using hi);rw[<-this];congr 1;omega)
      (fun i v hi=>by have:=hy (i+1) v (by simpa using hi);rw[<-this];congr 1;omega)
     have fin:∀ (b r':Bool),pM cM F2 Fy ks as bs=some r'->(Op.equalIn (d+1) f.type v u).run P w=.ok b w->(Op.eqFields (d+1) xs ys (f::fs)).run P w=.ok (Fy b r' false) w:=by
      intro b r' e1 he;simp only[Op.eqFields,hn,ne_eq,not_false_eq_true,if_true,ZQ,px,py,he,Z2];cases b;rfl
      ·simp only[Bool.not_true,ZI,if_false];exact ih' e1
     cases kb with
     | false=>
       obtain⟨kk,e⟩:=q2 rfl;cases a0 with
       | v x0=>
         cases b0 with
         | v y0=>
           simp only[iC]at a1 a2;subst a1 a2;cases v with
           | int k m=>
             cases u with
             | int k' n=>
               simp only[pM]at h;split at h
               case isFalse=>cases h
               rename_i hk;simp only[beq_iff_eq]at hk;subst hk;split at h
               case h_2=>cases h
               rename_i r' e1;cases h;exact fin _ _ e1 (Go.run_equalIn_int w d f.type k kk m n e)
             |_=>simp[pM]at h
           |_=>simp[pM]at h
         |_=>simp[pM]at h
       |_=>simp[pM]at h
     | true=>
       have e:=q3 rfl;cases a0 with
       | v x0=>
         cases b0 with
         | v y0=>
           simp only[iC]at a1 a2;subst a1 a2;cases v with
           | bool m=>
             cases u with
             | bool n=>
               simp only[pM]at h;split at h
               case h_2=>cases h
               rename_i r' e1;cases h;exact fin _ _ e1 (Go.run_equalIn_bool' w d f.type m n e)
             |_=>simp[pM]at h
           |_=>simp[pM]at h
         |_=>simp[pM]at h
       |_=>simp[pM]at h
def Je {op:BinOp}{t t':TypeId}{x y:Operand}(ho:o.op=.binOp op t x y t')(hS:aO cx G g a w)(h:(acv (RY P) cM F2 Fy L4 cx.n o.dst op t x y).Runs g ls (.ws ws)) 
 (hk:∀ a' w',fC cx (aT g ws) a' w'->K a' w'):o.wp P a w K Q:=by
 unfold acv at h;split at h
 ·exact h.elim
 ·rename_i ks hcm;obtain⟨rx,ls1,hx,h⟩:=dI hS h;obtain⟨ry,ls2,hy,h⟩:=dI hS h;split at h
  case h_2=>exact h.elim
  rename_i as bs;split at h
  case h_2=>exact h.elim
  rename_i r he;simp only[cW]at hx hy;obtain⟨vs,e1,h1⟩:=hx;obtain⟨us,e2,h2⟩:=hy;unfold RY at hcm;split at hcm
  case h_2=>cases hcm
  rename_i fs hu;split at hcm
  case isFalse=>cases hcm
  rename_i hb;simp only[Zc,YB]at hb;have hfo:P.fieldsOf t=fs:=by unfold Vs;rw[hu]
  have heq:(Op.equalIn 10000 t (.agg vs.toArray) (.agg us.toArray)).run P w=.ok r w:=by
   rw[show(10000:Nat)=9999+1 from rfl,Go.run_equalIn_struct w 9999 t _ _ (by rw[hfo];exact hu) hb.1,hfo];exact Mo (d:=9998) he h1 h2 fs.toList 0 hcm (fun i v hi=>by simpa using hi) (fun i v hi=>by simpa using hi)
  split at h
  ·refine bc hS h (v:=.bool r) (by simp[cW,iC]) ?_ hk;unfold execOp;simp[ho,e1,e2,Go.run_eqGuard_agg w _ t x y _ _ hb.2,Go.run_eql_struct,heq,Z6]
  ·refine bc hS h (v:=.bool (L4 r)) (by simp[cW,iC]) ?_ hk;unfold execOp;simp[ho,e1,e2,Go.run_eqGuard_agg w _ t x y _ _ hb.2,Go.run_neq_struct,heq,Z6,L4]
  ·exact h.elim
def T8 {op:BinOp}{t t':TypeId}{x y:Operand}(ho:o.op=.binOp op t x y t')(hS:aO cx G g a w)(h:(T7 P cx.n o.dst op t x y).Runs g ls (.ws ws)) 
 (hk:∀ a' w',fC cx (aT g ws) a' w'->K a' w'):o.wp P a w K Q:=by
 unfold T7 at h;obtain⟨rx,ls1,hx,h⟩:=dI hS h;split at h
 ·exact Je ho hS h hk
 ·exact B6 ho hS h hk
def Lt {op:UnOp}{t:TypeId}{x:Operand}(ho:o.op=.unOp op t x)(hS:aO cx G g a w)(h:(vUn cx.n o.dst op x).Runs g ls (.ws ws)) 
 (hk:∀ a' w',fC cx (aT g ws) a' w'->K a' w'):o.wp P a w K Q:=by
 unfold vUn at h;obtain⟨x0,ls',hx,h⟩:=bA hS h;have not_case:∀ b,op=.not->x0=.v (.bool b)->o.wp P a w K Q:=by
  rintro b rfl rfl;have hx':a.eval x=.bool b:=hx;simp only at h;refine bc hS h (v:=.bool (!b)) (by simp[cW,iC]) ?_ hk;unfold execOp;simp[ho,hx',Op.unary]
 have neg_case:∀ k m,op=.neg->x0=.v (.int k m)->o.wp P a w K Q:=by
  rintro k m rfl rfl;have hx':a.eval x=.int k m:=hx;simp only at h;refine bc hS h (v:=.int k (k.wrap (0-m))) (by simp[cW,iC]) ?_ hk;unfold execOp;simp[ho,hx',Op.unary,Op.intArith]
 split at h
 ·exact not_case _ rfl rfl
 ·exact neg_case _ _ rfl rfl
 ·simp[Rd.Runs]at h
def bX.take_drop {γ:Nat->Nat->Option Hv}:∀ {as:List A} {vs:List Value},bX γ G w as vs->∀ n,bX γ G w (as.take n) (vs.take n)/\bX γ G w (as.drop n) (vs.drop n)
 |[],vs,h,n=>by simp only[bX]at h;simp[h,bX]
 |x::as,vs,h,0=>⟨by simp[bX],by simpa using h⟩
 | x::as,vs,h,n+1=>by
   obtain⟨v,vs',rfl,h1,h2⟩:=h;have ih:=h2.take_drop n;simp only[XG,WN,bX];exact⟨⟨v,_,rfl,h1,ih.1⟩,ih.2⟩
def bX.append {γ:Nat->Nat->Option Hv}:∀ {as bs:List A} {vs us:List Value},bX γ G w as vs->bX γ G w bs us->bX γ G w (as++bs) (vs++us)
 |[],bs,vs,us,h,k=>by simp only[bX]at h;simpa[h]using k
 | x::as,bs,vs,us,h,k=>by
   obtain⟨v,vs',rfl,h1,h2⟩:=h;simp only[ZP,bX];exact⟨v,_,rfl,h1,h2.append k⟩
end
end Go.V
namespace Go.V
inductive Tk (g:Gm)(G:Gh)(w:World):L->Option Nat->List (Nat×Nat)->Value->List Nat->Prop
 |plain (l:L) (v:Value) (h:bN w l v []):Tk g G w l none [] v []
 |moved (r j:Nat) (h:Hv) (l:L) (h1:g (.leaf r j)=some (.h h)) (h2:h.c=.own l):Tk g G w l h.org [(r,j)] (G.val r j) (G.fp r j)
inductive HI (g:Gm)(G:Gh)(w:World):List (L×Option Nat)->List (Nat×Nat)->List Value->List (List Nat)->Prop
 |nil:HI g G w [] [] [] []
 |cons {l og src v S ls srcs vs Ss} (h:Tk g G w l og src v S) (hs:HI g G w ls srcs vs Ss):HI g G w ((l,og)::ls) (src++srcs) (v::vs) (S::Ss)
inductive Pk (g:Gm)(G:Gh)(w:World):H->Option Nat->List (Nat×Nat)->Value->List Nat->Prop
 |own {l og src v S} (h:Tk g G w l og src v S):Pk g G w (.own l) og src v S
 |ro (l:L) (v:Value) (S':List Nat) (h:bN w l v S') (h2:∀ b∈S',G.ow b=some .ro):Pk g G w (.ro l) none [] v []
 |al (r j:Nat) (h:Hv) (l:L) (i:Nat) (h1:g (.leaf r j)=some (.h h)) (h2:h.c=.own l) (h3:h.org=some i):Pk g G w .gone (some i) [] (G.val r j) []
inductive zI (g:Gm)(G:Gh)(w:World):List (H×Option Nat)->List (Nat×Nat)->List Value->List (List Nat)->Prop
 |nil:zI g G w [] [] [] []
 |cons {c og src v S ls srcs vs Ss} (h:Pk g G w c og src v S) (hs:zI g G w ls srcs vs Ss):zI g G w ((c,og)::ls) (src++srcs) (v::vs) (S::Ss)
section
variable {P: Program} {o: Oper} {cx: Cx} {G: Gh} {g: Gm} {a: Act} {w: World}
def nI (hS:aO cx G g a w){α:Type}{slot:Option Nat}{x:A}{v:Value}(hx:iC (gl g) G w x v){k:L->Option Nat->List (Nat×Nat)->Rd α}{ls:List Loc}{out:α} 
 (h:(take1 slot x k).Runs g ls out):∃ l og src S ls',Tk g G w l og src v S/\(k l og src).Runs g ls' out:=by
 unfold take1 at h;split at h
 ·rename_i y;have hv:v=y:=hx;subst hv;split at h
  ·rename_i hs;exact⟨_,_,_,[],ls,.plain _ _ (by simp[bN,hs]),h⟩
  ·simp[Rd.Runs]at h
 ·have hv:v=.slice none 0 0:=hx;subst hv;exact⟨_,_,_,[],ls,.plain _ _ (by simp only[bN];exact⟨none,0,0,rfl,rfl,Zf _,Ze _,.inl (by simp)⟩),h⟩
 ·rename_i r j ver lo m sz;obtain⟨hv,ls2,q1,q2,h⟩:=bB h;split at h
  ·rename_i sz' es hc;split at h
   ·rename_i hb;simp only[Zc,beq_iff_eq]at hb;simp only[Rd.Runs]at h;obtain⟨⟨h0,h1⟩,h⟩:=h;obtain⟨h2,f1,f2,f3⟩:=hx;rw[q1]at f1;cases f1;obtain⟨f4,base,len,cap,base',cap',g1,g2,g3,g4,g5,g6⟩:=f3 hb.1 sz' es hc;have hok:=hS.hok q1;have:m=len:=by
     simp only[ew,hc,bN]at hok;obtain⟨⟨b0,n0,c0,r1,r2,_⟩,_⟩:=hok;rw[g1]at r1;cases r1;omega
    have e:=g5 h0 this;refine⟨_,_,_,G.fp r j,ls2,?_,h⟩;rw[e];exact .moved r j hv _ q2 hc
   ·simp[Rd.Runs]at h
  ·simp[Rd.Runs]at h
 ·rename_i r j ver sz;obtain⟨hv,ls2,q1,q2,h⟩:=bB h;split at h
  ·rename_i kb es hc;split at h
   ·rename_i hb;obtain⟨h2,f1,f2,f3⟩:=hx;rw[q1]at f1;cases f1;have e:=f3 (by simpa using hb) kb es hc;refine⟨_,_,_,G.fp r j,ls2,?_,h⟩;rw[e];exact .moved r j hv _ q2 hc
   ·simp[Rd.Runs]at h
  ·simp[Rd.Runs]at h
 ·simp[Rd.Runs]at h
def fX (hS:aO cx G g a w){α:Type}:∀ (slots:List (Option Nat)) (as:List A) (vs:List Value),bX (gl g) G w as vs->∀ (k:List (L×Option Nat)->List (Nat×Nat)->Rd α) (ls:List Loc) (out:α),
 (dc slots as k).Runs g ls out->∃ lts srcs Ss ls',HI g G w lts srcs vs Ss/\lts.length=slots.length/\(k lts srcs).Runs g ls' out
 | [],[],vs,hx,k,ls,out,h=>by
   simp only[bX]at hx;subst hx;exact⟨[],[],[],ls,.nil,rfl,by simpa[dc]using h⟩
 |[],_::_,vs,hx,k,ls,out,h=>by simp[dc,Rd.Runs]at h
 |_::_,[],vs,hx,k,ls,out,h=>by simp[dc,Rd.Runs]at h
 | sl::sls,x::as,vs,hx,k,ls,out,h=>by
   obtain⟨v,vs',rfl,h1,h2⟩:=hx;simp only[dc]at h;obtain⟨l,og,src,S,ls2,t1,h⟩:=nI hS h1 h;obtain⟨lts,srcs,Ss,ls3,t2,t4,h⟩:=fX hS sls as vs' h2 _ _ _ h;exact⟨_,_,_,ls3,.cons t1 t2,by simp[t4],h⟩
def IV (hS:aO cx G g a w){α:Type}{slot:Option Nat}{x:A}{v:Value}(hx:iC (gl g) G w x v){k:H->Option Nat->List (Nat×Nat)->Rd α}{ls:List Loc}{out:α} 
 (h:(QF slot x k).Runs g ls out):∃ c og src S ls',Pk g G w c og src v S/\(k c og src).Runs g ls' out:=by
 unfold QF at h;split at h
 ·rename_i sz' es sz;split at h
  ·obtain⟨S,h1,h2⟩:=hx;exact⟨_,_,_,[],ls,.ro _ _ S h1 h2,h⟩
  ·simp[Rd.Runs]at h
 ·rename_i r j ver lo m sz;obtain⟨hv,ls2,q1,q2,h⟩:=bB h;split at h
  ·rename_i i hi;have ho:hv.org=some i:=(zM hi).1;split at h
   ·rename_i sz' es hc;split at h
    ·rename_i hb;obtain⟨hq,h⟩:=h;obtain⟨h2,f1,f2,f3⟩:=hx;rw[q1]at f1;cases f1;simp only[Zc,beq_iff_eq]at hb;obtain⟨g1,g2⟩:=f3 hb.1 _ _ hc;obtain⟨base,len,cap,base',cap',k1,k2,_,_,k3,_⟩:=g2;have hok:=hS.hok q1;simp only[ew,hc,bN]at hok;obtain⟨⟨b0,len0,cap0,e1,e2,_⟩,_⟩:=hok;have e:v=G.val r j:=k3 hq.1 (by rw[hq.2];rw[k1]at e1;cases e1;exact e2.symm);rw[e];exact⟨_,_,_,[],ls2,.al r j hv _ i q2 hc ho,h⟩
    ·simp[Rd.Runs]at h
   ·simp[Rd.Runs]at h
  ·obtain⟨l,og,src,S,ls',t,h⟩:=nI hS hx h;exact⟨_,_,_,S,ls',.own t,h⟩
 ·obtain⟨l,og,src,S,ls',t,h⟩:=nI hS hx h;exact⟨_,_,_,S,ls',.own t,h⟩
def pZ (hS:aO cx G g a w){α:Type}:∀ (slots:List (Option Nat)) (as:List A) (vs:List Value),bX (gl g) G w as vs->∀ (k:List (H×Option Nat)->List (Nat×Nat)->Rd α) (ls:List Loc) (out:α),
 (oI slots as k).Runs g ls out->∃ lts srcs Ss ls',zI g G w lts srcs vs Ss/\lts.length=slots.length/\(k lts srcs).Runs g ls' out
 | [],[],vs,hx,k,ls,out,h=>by
   simp only[bX]at hx;subst hx;exact⟨[],[],[],ls,.nil,rfl,by simpa[oI]using h⟩
 |[],_::_,vs,hx,k,ls,out,h=>by simp[oI,Rd.Runs]at h
 |_::_,[],vs,hx,k,ls,out,h=>by simp[oI,Rd.Runs]at h
 | sl::sls,x::as,vs,hx,k,ls,out,h=>by
   obtain⟨v,vs',rfl,h1,h2⟩:=hx;simp only[oI]at h;obtain⟨c,og,src,S,ls2,t1,h⟩:=IV hS h1 h;obtain⟨lts,srcs,Ss,ls3,t2,t4,h⟩:=pZ hS sls as vs' h2 _ _ _ h;exact⟨_,_,_,ls3,.cons t1 t2,by simp[t4],h⟩
def Tk.facts (hS:aO cx G g a w){l:L}{og:Option Nat}{src:List (Nat×Nat)}{v:Value}{S:List Nat}(h:Tk g G w l og src v S):
 bN w l v S/\S.Nodup/\∀ b∈S,eV w b/\∃ r j,(r,j)∈src/\G.ow b=some (.leaf r j):=by
 cases h with
 |plain l v h=>exact⟨h,ZL,fun b hb=>by cases hb⟩
 | moved r j h l h1 h2=>
   have:=hS.hok (av.2 h1);simp only[ew,h2]at this;exact⟨this.1,this.2.1,fun b hb=>⟨(this.2.2 b hb).2,r,j,by simp,(this.2.2 b hb).1⟩⟩
def Pk.org (hS:aO cx G g a w){c:H}{og:Option Nat}{src:List (Nat×Nat)}{v:Value}{S:List Nat}(h:Pk g G w c og src v S):fg cx c og v:=by
 cases h with
 | own t=>
   cases t with
   |plain l v h=>exact fg.none
   |moved r j h l h1 h2=>have:=hS.anc r j h (av.2 h1);rw[h2]at this;exact this
 |ro l v S' h h2=>exact fg.none
 |al r j h l i h1 h2 h3=>exact fun i' e=>by cases e;exact hS.anc r j h (av.2 h1) i h3
def zI.orgs (hS:aO cx G g a w){ls:List (H×Option Nat)}{srcs:List (Nat×Nat)}{vs:List Value}{Ss:List (List Nat)}(h:zI g G w ls srcs vs Ss):HZ cx ls vs:=by
 induction h with
 |nil=>trivial
 |cons h hs ih=>exact⟨h.org hS,ih⟩
def Pk.facts (hS:aO cx G g a w){c:H}{og:Option Nat}{src:List (Nat×Nat)}{v:Value}{S:List Nat}(h:Pk g G w c og src v S):
 S.Nodup/\∀ b∈S,eV w b/\∃ r j,(r,j)∈src/\G.ow b=some (.leaf r j):=by
 cases h with
 |own t=>exact(t.facts hS).2
 |ro l v S' h h2=>exact⟨ZL,fun b hb=>by cases hb⟩
 |al r j h l i h1 h2 h3=>exact⟨ZL,fun b hb=>by cases hb⟩
def bN.one {l:L}{v:Value}{S:List Nat}(h:bN w l v S):v.oneCell'=true:=by
 cases l with
 |v y=>simp only[bN]at h;obtain⟨rfl,h2,_⟩:=h;cases v<;>simp_all [scal,WO]
 |g=>simp only[bN]at h;exact h.1
 |m _ _=>simp only[bN]at h;obtain⟨b,ents,clock,rfl,_⟩:=h;rfl
 |s sz es=>simp only[bN]at h;obtain⟨_,_,_,rfl,_⟩:=h;rfl
def Pk.one (hS:aO cx G g a w){c:H}{og:Option Nat}{src:List (Nat×Nat)}{v:Value}{S:List Nat}(h:Pk g G w c og src v S):v.oneCell'=true:=by
 cases h with
 |own t=>exact bN.one (t.facts hS).1
 |ro l v S' h h2=>exact bN.one h
 | al r j h l i h1 h2 h3=>
   have:=hS.hok (av.2 h1);simp only[ew,h2]at this;exact bN.one this.1
def cJ {xs ys:List (Nat×Nat)}(h:bp (xs++ys)=true):bp xs=true/\bp ys=true/\∀ p,p∈xs->p∉ys:=by
 induction xs with
 |nil=>exact⟨rfl,by simpa using h,fun p hp=>by cases hp⟩
 | cons x xs ih=>
   simp only[ZP,bp,Zc,YB,We,Zg,decide_eq_false_iff_not,not_or]at h ⊢;obtain⟨⟨h1,h2⟩,h3⟩:=h;obtain⟨i1,i2,i3⟩:=ih h3;exact⟨⟨h1,i1⟩,i2,fun p hp=>by rcases Zk.1 hp with rfl|hp;exact h2;exact i3 p hp⟩
def zI.length {ls:List (H×Option Nat)}{srcs:List (Nat×Nat)}{vs:List Value}{Ss:List (List Nat)}(h:zI g G w ls srcs vs Ss):vs.length=ls.length/\Ss.length=ls.length:=by
 induction h with
 |nil=>exact⟨rfl,rfl⟩
 |cons _ _ ih=>simp[ih.1,ih.2]
def zI.nth {ls:List (H×Option Nat)}{srcs:List (Nat×Nat)}{vs:List Value}{Ss:List (List Nat)}(h:zI g G w ls srcs vs Ss):∀ (i:Nat) (c:H) (og:Option Nat),ls[i]?=some (c,og)->
 ∃ src v S,Pk g G w c og src v S/\vs[i]?=some v/\Ss[i]?=some S/\∀ p∈src,p∈srcs:=by
 induction h with
 |nil=>intro i c og e;simp at e
 | cons hk hs ih=>
   intro i c og e;cases i with
   |zero=>simp at e;obtain⟨rfl,rfl⟩:=e;exact⟨_,_,_,hk,rfl,rfl,fun p hp=>by simp[hp]⟩
   | succ i=>
     simp at e;obtain⟨src,v,S,k1,k2,k3,k4⟩:=ih i c og e;exact⟨src,v,S,k1,by simpa using k2,by simpa using k3,fun p hp=>by simp[k4 p hp]⟩
def zI.tok (hS:aO cx G g a w){ls:List (H×Option Nat)}{srcs:List (Nat×Nat)}{vs:List Value}{Ss:List (List Nat)}(h:zI g G w ls srcs vs Ss):∀ i,∀ b∈Ss.getD i [],∃ r j,(r,j)∈srcs/\G.ow b=some (.leaf r j):=by
 induction h with
 |nil=>intro i b hb;simp at hb
 | cons hk hs ih=>
   intro i b hb;cases i with
   | zero=>
     obtain⟨_,r,j,h1,h2⟩:=(hk.facts hS).2 b (by simpa using hb);exact⟨r,j,by simp[h1],h2⟩
   | succ i=>
     obtain⟨r,j,h1,h2⟩:=ih i b (by simpa using hb);exact⟨r,j,by simp[h1],h2⟩
def zI.disj (hS:aO cx G g a w){ls:List (H×Option Nat)}{srcs:List (Nat×Nat)}{vs:List Value}{Ss:List (List Nat)}(h:zI g G w ls srcs vs Ss)(hd:bp srcs=true):
 ∀ i j,i≠j->∀ b∈Ss.getD i [],b∉Ss.getD j []:=by
 induction h with
 |nil=>intro i j _ b hb;simp at hb
 | cons hk hs ih=>
   obtain⟨d1,d2,d3⟩:=cJ hd;have cross:∀ (k:Nat) (b:Nat),b∈ ‹List Nat› ->b∈(‹List (List Nat)› :List (List Nat)).getD k []->False:=by
    intro k b hb hb2;obtain⟨_,r,j,h1,h2⟩:=(hk.facts hS).2 b hb;obtain⟨r',j',h3,h4⟩:=hs.tok hS k b hb2;rw[h2]at h4;cases h4;exact d3 _ h1 h3
   intro i j hij b hb hb2;cases i with
   | zero=>
     cases j with
     |zero=>exact hij rfl
     |succ j=>exact cross j b (by simpa using hb) (by simpa using hb2)
   | succ i=>
     cases j with
     |zero=>exact cross i b (by simpa using hb2) (by simpa using hb)
     |succ j=>exact ih d2 i j Uc b (by simpa using hb) (by simpa using hb2)
def cr (g:Gm):∀ (xs ys:List W),aT g (xs++ys)=aT (aT g xs) ys
 |[],_=>rfl
 |x::xs,ys=>cr (x.app g) xs ys
def gy {α:Type}:∀ (srcs:List (Nat×Nat)) (g0:Gm),aO cx G g0 a w->(∀ r j,(r,j)∈srcs->g0 (.leaf r j)=g (.leaf r j))->bp srcs=true->
 ∀ (k:List W->Rd α) (ls:List Loc) (out:α),(jk srcs k).Runs g ls out->
 ∃ w1 ls',aO cx G (aT g0 w1) a w/\(k w1).Runs g ls' out/\(∀ r j,(r,j)∈srcs->∃ h,aT g0 w1 (.leaf r j)=some (.h h)/\h.c=.gone)/\
  (∀ l,(∀ r j,l=.leaf r j->(r,j)∉srcs)->aT g0 w1 l=g0 l)
 |[],g0,hS,_,_,k,ls,out,h=>⟨[],ls,hS,by simpa[jk]using h,fun r j hm=>by simp at hm,fun _ _=>rfl⟩
 | (r,j)::xs,g0,hS,hag,hd,k,ls,out,h=>by
  simp only[jk]at h;obtain⟨hv,ls2,_,q,h⟩:=bB h;simp only[bp,Zc,YB,We,decide_eq_false_iff_not]at hd;have q0:g0 (.leaf r j)=some (.h hv):=by rw[hag r j (by simp),q]
  have hS1:=hS.gone q0;have hag1:∀ r' j',(r',j')∈xs->(W.leaf r j ⟨hv.ver+1,hv.iv,none,.gone⟩).app g0 (.leaf r' j')=g (.leaf r' j'):=by
   intro r' j' hm;have:¬ (r'=r/\j'=j):=by rintro⟨rfl,rfl⟩;exact hd.1 hm
   simp only[W.app];rw[VF (by intro e;cases e;exact this ⟨rfl,rfl⟩)];exact hag r' j' (by simp[hm])
  obtain⟨w1,ls3,h1,h2,h3,h4⟩:=gy xs _ hS1 hag1 hd.2 _ _ _ h;refine⟨.leaf r j ⟨hv.ver+1,hv.iv,none,.gone⟩::w1,ls3,h1,h2,?_,?_⟩
  ·intro r' j' hm;rcases Zk.1 hm with e|hm
   ·cases e;refine⟨⟨hv.ver+1,hv.iv,none,.gone⟩,?_,rfl⟩;simp only[aT];rw[h4 _ (fun r' j' e=>by cases e;exact hd.1)];simp[W.app]
   ·exact h3 r' j' hm
  ·intro l hl;simp only[aT];rw[h4 l (fun r' j' e hm=>hl r' j' e (by simp[hm]))];cases l with
   | leaf r' j'=>
     have:¬ (r'=r/\j'=j):=by rintro⟨rfl,rfl⟩;exact hl r' j' rfl (by simp)
     simp only[W.app];rw[VF (by intro e;cases e;exact this ⟨rfl,rfl⟩)]
   |_=>simp[W.app]
end
end Go.V
namespace Go.V
def qb (w:World)(ob:Obj):Same (fun _=>True) w (w.alloc ob):=⟨rfl,rfl,rfl,by simp,fun b hb _=>heap_alloc_old w ob hb⟩
section
variable {P: Program} {o: Oper} {cx: Cx} {G: Gh} {g: Gm} {a: Act} {w: World}
def aO.newBox (hS:aO cx G g a w){lts:List (H×Option Nat)}{srcs:List (Nat×Nat)}{vs:List Value}{Ss:List (List Nat)}(hp:zI g G w lts srcs vs Ss)(hdist:bp srcs=true) 
 {g1:Gm} (hS1:aO cx G g1 a w) (hgone:∀ r j,(r,j)∈srcs->∃ h,g1 (.leaf r j)=some (.h h)/\h.c=.gone) {d:Nat} (hd:g1 (.meta_ d)=none) (ty:TypeId):
 ∃ G',aO cx G' ((W.root d true (yO lts)).app g1) a (w.alloc (.cells vs.toArray ty))/\G'.loc d=some (w.heap.size,0):=by
 have hlen:=hp.length;obtain⟨G',h1,h2,h3,h4⟩:=hS1.newRoot hd true (yO lts) (w.alloc (.cells vs.toArray ty)) (qb w _) (fun j=>vs.getD j undef) (fun j=>Ss.getD j [])
  (by
    intro j h hj;simp only[yO,ZD,ZB]at hj;obtain⟨⟨c,og⟩,e1,rfl⟩:=hj;obtain⟨src,v,S,k1,k2,k3,k4⟩:=hp.nth j c og e1;have f:=k1.facts hS;have hv:vs.getD j undef=v:=by simp[Zv,k2]
    have hSs:Ss.getD j []=S:=by simp[Zv,k3]
    rw[hv,hSs];have hfree:∀ b∈S,eV (w.alloc (.cells vs.toArray ty)) b/\sX g1 G w b:=by
     intro b hb;obtain⟨u,r,j',m1,m2⟩:=f.2 b hb;refine⟨u.keep (heap_alloc_old w _ u.lt),.inr ⟨r,j',m2,fun h l e1 e2=>?_⟩⟩;obtain⟨h',q1,q2⟩:=hgone r j' (k4 _ m1);rw[av,q1]at e1;cases e1;rw[q2]at e2;cases e2
    cases k1 with
    | own t=>
      have tf:=t.facts hS;simp only[KS];exact⟨bN.keep _ _ _ tf.1 (fun b hb=>heap_alloc_old w _ (bN.lt _ _ _ tf.1 b hb)),f.1,hfree⟩
    | ro l v S' h h2=>
      simp only[KS];exact⟨trivial,S',bN.keep _ _ _ h (fun b hb=>heap_alloc_old w _ (bN.lt _ _ _ h b hb)),h2⟩
    |al r0 j0 h0 l i h1 h2 h3=>simp only[KS])
  (by
    intro j h hj;simp only[yO,ZD,ZB]at hj;obtain⟨⟨c,og⟩,e1,rfl⟩:=hj;obtain⟨src,v,S,k1,k2,k3,k4⟩:=hp.nth j c og e1;have hv:vs.getD j undef=v:=by simp[Zv,k2]
    rw[hv];exact k1.org hS)
  (by
    intro i j _ _ hij b hb;exact hp.disj hS hdist i j hij b hb)
  w.heap.size 0 (by
   intro _;refine⟨Zf _,⟨vs.toArray,ty,heap_alloc_new w _,by simp[yO,hlen.1],fun j hj=>?_⟩,fun j hj hb=>?_⟩
   ·have hj':j<vs.length:=by simpa[yO,hlen.1]using hj
    simp[Zv,hj']
   ·obtain⟨r,j',m1,m2⟩:=hp.tok hS j _ hb;have:=hS.lt _ _ m2;omega)
 exact⟨G',h1,h3 rfl⟩
def iZ (r:R)(as:List A)(v:Value)(hl:dK r=some as)(h:cW (gl g) G w r v):∃ vs,bX (gl g) G w as vs/\(v=.agg vs.toArray\/vs=[v]):=by
 cases r with
 |one x=>simp only[dK,Ya]at hl;subst hl;simp only[cW]at h;exact⟨[v],by simp[bX,h],.inr rfl⟩
 |agg xs=>simp only[dK,Ya]at hl;subst hl;simp only[cW]at h;obtain⟨vs,e,h⟩:=h;exact⟨vs,h,.inl e⟩
 |tup rs=>simp[dK]at hl
def rh {v:Value}{vs:List Value}(h:v=.agg vs.toArray\/vs=[v])(h1:∀ u∈vs,u.oneCell'=true):v.cells=vs.toArray:=by
 rcases h with rfl|rfl;rfl
 ·have:=h1 v (by simp);cases v<;>first|rfl|(simp[WO]at this)
def zI.one (hS:aO cx G g a w){ls:List (H×Option Nat)}{srcs:List (Nat×Nat)}{vs:List Value}{Ss:List (List Nat)}(h:zI g G w ls srcs vs Ss):∀ u∈vs,u.oneCell'=true:=by
 induction h with
 |nil=>intro u hu;simp at hu
 | cons hk hs ih=>
   intro u hu;rcases Zk.1 hu with rfl|hu;exact hk.one hS;exact ih u hu
variable {ls: List Loc} {ws: List W} {K: Act -> World -> Prop} {Q: Exit -> Act -> World -> Prop}
def cV {α:Type}{n:Nat}{d:Option Tmp}{k:Nat->Rd α}{out:α}(h:(fresh n d k).Runs g ls out):∃ d' ls',d=some d'/\d'<n/\g (.meta_ d')=none/\(k d').Runs g ls' out:=by
 unfold fresh at h;cases d with
 |none=>simp[Rd.Runs]at h
 | some d=>
   simp only at h;split at h
   ·rename_i hlt;simp only[Rd.Runs]at h;obtain⟨ls',_,h⟩:=h;cases hm:g (.meta_ d)with
    |none=>simp only[hm]at h;exact⟨d,ls',rfl,hlt,hm,h⟩
    |some y=>simp[hm,Rd.Runs]at h
   ·simp[Rd.Runs]at h
def I8 {t:TypeId}{x:Operand}(ho:o.op=.box t x)(hS:aO cx G g a w)(h:(OP P cx.n o.dst t x).Runs g ls (.ws ws)) 
 (hk:∀ a' w',fC cx (aT g ws) a' w'->K a' w'):o.wp P a w K Q:=by
 unfold OP at h;cases hti:oO P t with
 |none=>simp[hti,Rd.Runs]at h
 | some ti=>
   simp only[hti]at h;obtain⟨r,ls1,hr,h⟩:=dI hS h;cases hl:dK r with
   |none=>simp[hl,Rd.Runs]at h
   | some as=>
     simp only[hl]at h;obtain⟨vs,hvs',hv⟩:=iZ r as _ hl hr;obtain⟨d,ls2,hd,hlt,hm,h⟩:=cV h;obtain⟨lts,srcs,Ss,ls3,hp,_,h⟩:=pZ hS _ _ _ hvs' _ _ _ h;split at h
     ·rename_i hdist;obtain⟨w1,ls4,hS1,h,hg1,hg2⟩:=gy srcs g hS (fun _ _ _=>rfl) hdist _ _ _ h;simp only[Rd.Runs,Out.ws.injEq]at h;obtain⟨_,rfl⟩:=h;have hm1:aT g w1 (.meta_ d)=none:=by rw[hg2 _ (by intro r j e;cases e)];exact hm
      obtain⟨G',k1,k2⟩:=hS.newBox hp hdist hS1 hg1 hm1 t;have hc:=rh hv (hp.one hS);refine dM (v:=.pointer (some ⟨w.heap.size,0,none⟩)) (w':=w.alloc (.cells vs.toArray t)) ?_ (hk _ _ ?_)
      ·unfold execOp;simp[ho,Instr.box,newVar,newRow,hc]
      ·rw[cr];simp only[aT];rw[hd];exact⟨G',k1.put hlt (by simp only[cW];exact⟨w.heap.size,0,k2,rfl⟩)⟩
     ·simp[Rd.Runs]at h
def HG:∀ {zr:ax} {vs:List Value},ak w zr vs []->zI g G w (zr.map fun l=>(H.own l,none)) [] vs (zr.map fun _=>[])
 |[],vs,h=>by simp only[ak]at h;obtain⟨rfl,_⟩:=h;exact .nil
 | l::ls,vs,h=>by
   simp only[ak]at h;obtain⟨v,vs',S1,S2,rfl,h1,h2,e⟩:=h;have:=List.append_eq_nil_iff.1 e.symm;obtain⟨rfl,rfl⟩:=this;exact zI.cons (src:=[]) (.own (.plain _ _ h1)) (HG h2)
def FF {t:TypeId}(ho:o.op=.alloc t)(hS:aO cx G g a w)(h:(B0 P cx.n o.dst t).Runs g ls (.ws ws)) 
 (hk:∀ a' w',fC cx (aT g ws) a' w'->K a' w'):o.wp P a w K Q:=by
 unfold B0 at h;cases hti:oO P t with
 |none=>simp[hti,Rd.Runs]at h
 | some ti=>
   simp only[hti]at h;obtain⟨d,ls2,hd,hlt,hm,h⟩:=cV h;simp only[Rd.Runs,Out.ws.injEq]at h;obtain⟨_,rfl⟩:=h;obtain⟨i,z,e1,e2,e3,e4,e5⟩:=hD hti;have hz:=(iw e4).1 w;have hp:=HG (g:=g) (G:=G) hz;obtain⟨G',k1,k2⟩:=hS.newBox hp rfl hS (fun r j hm=>by simp at hm) hm t;refine dM (v:=.pointer (some ⟨w.heap.size,0,none⟩)) (w':=w.alloc (.cells z.cells.toList.toArray t)) ?_ (hk _ _ ?_)
   ·unfold execOp;simp[ho,Instr.alloc,zeroValue,typeInfo,e1,e2,newVar,newRow]
   ·simp only[aT];rw[hd];have:(ti.zero.map fun l=>(⟨0,0,none,.own l⟩:Hv))=yO (ti.zero.map fun l=>(H.own l,none)):=by simp[yO,WP]
    rw[this];exact⟨G',k1.put hlt (by simp only[cW];exact⟨w.heap.size,0,k2,rfl⟩)⟩
def aO.newRow (hS:aO cx G g a w){d:Nat}(hlt:d<cx.n)(hd:g (.meta_ d)=none)(w':World)(hw:Same (fun _=>True) w w')(n:Nat)(cur:Array Value)(ty:TypeId) 
 (hn:w.heap.size<=n) (hnew:w'.heap[n]?=some (.cells cur ty (0,0))) (sz:Nat) (es:ab) (len cap:Nat) (hlen:len=es.length) (hlc:len<=cap) (hcm:cap<=maxLen) (hcs:cap*sz<=cur.size) (S:List Nat)
 (hr:bH w' sz es (cur.toList.take (len*sz)) S) (hnd:S.Nodup) (hS':∀ b∈S,eV w' b/\sX g G w b/\b≠n):
 fC cx (aT g (ownRow d sz es)) (a.put (some d) (.slice (some ⟨n,0,none⟩) len cap)) w':=by
 have hrd:bN w' (.s sz es) (.slice (some ⟨n,0,none⟩) len cap) (n::S):=by
  simp only[bN];exact⟨_,len,cap,rfl,hlen,hlc,hcm,.inr ⟨n,0,cur,ty,(0,0),S,rfl,hnew,Uc,by simpa using hr,rfl⟩⟩
 obtain⟨G',k1,k2,_,_⟩:=hS.newRoot hd false [⟨0,0,none,.own (.s sz es)⟩] w' hw (fun _=>.slice (some ⟨n,0,none⟩) len cap) (fun _=>n::S)
  (by
    intro j h hj;have hj0:j=0:=by
     cases j with
     |zero=>rfl
     |succ j=>simp at hj
    subst hj0;simp at hj;subst hj;simp only[KS];refine⟨hrd,Yr.2 ⟨fun hb=>(hS' n hb).2.2 rfl,hnd⟩,fun b hb=>?_⟩;rcases Zk.1 hb with rfl|hb;exact⟨.inl ⟨cur,ty,hnew⟩,.inl hn⟩
    ·exact⟨(hS' b hb).1,(hS' b hb).2.1⟩)
  (fun j h hj=>by cases j with
    |zero=>simp at hj;subst hj;exact fg.none
    |succ j=>simp at hj)
  (by intro i j hi hj hij;simp at hi hj;omega) 0 0 (by simp)
 simp only[ownRow,aT];refine⟨G',k1.put hlt ?_⟩;simp only[cW];have hg:gl ((W.root d false [⟨0,0,none,.own (.s sz es)⟩]).app g) d 0=some ⟨0,0,none,.own (.s sz es)⟩:=by simp[gl,W.app]
 refine⟨_,hg,Zf _,fun _ sz' es' e=>?_⟩;cases e;rw[k2];exact⟨Uc,d9.full hrd⟩
def ji {α:Type}(z:List α)(f:Nat->α)(hf:∀ j,f (j+z.length)=f j)(h0:(Zl z.length).map f=z):∀ n,(Zl (n*z.length)).map f=(ZM n z).flatten
 |0=>by simp
 | n+1=>by
   have ih:=ji z f hf h0 n;rw[Zs,Wa,List.range_add,List.map_append,ih,List.replicate_succ',List.flatten_append]
   congr 1
   simp only[Xr,ZZ,List.flatten_nil,List.append_nil];rw[<-h0];simp only[List.length_map,List.length_range];have:∀ m j,f (m*z.length+j)=f j:=by
    intro m
    induction m with
    |zero=>intro j;simp
    |succ m ihm=>intro j;rw[Zs,Wa,Nat.add_right_comm,hf];exact ihm j
   apply List.map_congr_left;intro j _;simp only[Vt];have hl:((Zl z.length).map f).length=z.length:=by simp
   simp only[this]
def HH (z:Array Value)(n:Nat):((Wh (n*z.size)).map (z[· %z.size]!)).toList=(ZM n z.toList).flatten:=by
 have h:=ji z.toList (fun k=>z[k%z.size]!) (fun j=>by simp) (by
  apply ZN;intro k;simp only[ZD,ZS];by_cases hk:k<z.size
  ·rw[List.getElem?_range hk];simp[Nat.mod_eq_of_lt hk,hk]
  ·rw[ZV (by simpa using hk),ZV (by simpa using hk)];rfl) n
 simpa using h
def bH.replicate {sz:Nat}{zr:ax}{zl:List Value}(h:ak w zr zl [])(hl:zl.length=sz):∀ n,bH w sz (ZM n zr) (ZM n zl).flatten []
 |0=>by simp[bH]
 | n+1=>by
   simp only[XI,ZZ,bH];exact⟨zl,_,[],[],rfl,hl,h,bH.replicate h hl n,rfl⟩
def HD {t:TypeId}{l c:Operand}(ho:o.op=.makeSlice t l c)(hS:aO cx G g a w)(h:(HC P cx.n o.dst t l c).Runs g ls (.ws ws)) 
 (hk:∀ a' w',fC cx (aT g ws) a' w'->K a' w'):o.wp P a w K Q:=by
 unfold HC at h;split at h
 ·simp[Rd.Runs]at h
 ·rename_i e ti bytes hel;obtain⟨kl,n,ls1,he1,h⟩:=eR hS h;obtain⟨kc,m,ls2,he2,h⟩:=eR hS h;split at h
  ·rename_i hkk;simp only[Zc,beq_iff_eq]at hkk;obtain⟨hk1,hk2⟩:=hkk;rw[hk1]at he1;rw[hk2]at he2;simp only[Rd.Runs]at h;obtain⟨⟨h0,h1,h2,h3⟩,h⟩:=h;obtain⟨d,ls3,hd,hlt,hm,h⟩:=cV h;simp only[Rd.Runs,Out.ws.injEq]at h;obtain⟨_,rfl⟩:=h;obtain⟨e1,e2,inf,e3,e4,e5,e6⟩:=oX hel;obtain⟨i,z,f1,f2,f3,f4,f5⟩:=hD e2;rw[e3]at f1;cases f1;subst e4;obtain⟨z1,z2,z3⟩:=iw f4;have hzs:z.cells.size=ti.zero.length:=by simpa using z2
   have run:=run_make (P:=P) w t e inf z e1 e3 f2 Za Za n m h0 h1 (by rw[Int.mul_comm];omega) Uc;refine dM (v:=_) (w':=_) (by unfold execOp;simp only[ho,he1,he2,ZQ,run,Z2,Yi];rfl) (hk _ _ ?_);have hmade:madeCells z.cells (m.toNat*inf.size)=(Wh (m.toNat*z.cells.size)).map (z.cells[· %z.cells.size]!):=by
    rw[e6, <-hzs];rfl
   have hmz:(madeCells z.cells (m.toNat*inf.size)).toList=(ZM m.toNat z.cells.toList).flatten:=by
    rw[hmade];exact HH z.cells m.toNat
   rw[hd];refine hS.newRow hlt hm _ (qb w _) w.heap.size _ e (Zf _) (heap_alloc_new w _) _ _ n.toNat m.toNat (by simp) Uc (by unfold maxLen;omega) ?_ [] ?_ ZL (fun b hb=>by cases hb)
   ·rw[size_madeCells,e6];exact Zf _
   ·rw[hmz];have hz':=z1 (w.alloc (.cells (madeCells z.cells (m.toNat*inf.size)) e));have hall:=bH.replicate hz' (by simpa using hzs) m.toNat;have:=hall.sub 0 n.toNat;obtain⟨S1,q1,q2⟩:=this;have hS1:S1=[]:=by
     cases S1 with
     |nil=>rfl
     |cons b bs=>exact absurd (q2 b (by simp)) (by simp)
    subst hS1;simp only[Wc,Y6,List.take_replicate,List.length_replicate]at q1;rw[Xs Uc]at q1;exact q1
  ·simp[Rd.Runs]at h
end
end Go.V
namespace Go.V
inductive Rows (w:World)(sz:Nat):ab->List (List Value)->List (List Nat)->Prop
 |nil:Rows w sz [] [] []
 |cons {e vs S es vss Ss} (h:ak w e vs S) (hl:vs.length=sz) (hs:Rows w sz es vss Ss):Rows w sz (e::es) (vs::vss) (S::Ss)
section
variable {P: Program} {o: Oper} {cx: Cx} {G: Gh} {g: Gm} {a: Act} {w: World} {sz: Nat}
def Rows.rdEs {es:ab}{vss:List (List Value)}{Ss:List (List Nat)}(h:Rows w sz es vss Ss):bH w sz es vss.flatten Ss.flatten:=by
 induction h with
 |nil=>simp[bH]
 |cons h hl hs ih=>simp only[bH,ZZ];exact⟨_,_,_,_,rfl,hl,h,ih,rfl⟩
def Rows.set {es:ab}{vss:List (List Value)}{Ss:List (List Nat)}(h:Rows w sz es vss Ss){e:ax}{vs:List Value}{S:List Nat}(he:ak w e vs S)(hl:vs.length=sz):
 ∀ i,Rows w sz (es.set i e) (vss.set i vs) (Ss.set i S):=by
 induction h with
 |nil=>intro i;exact .nil
 | cons h hl' hs ih=>
   intro i;cases i with
   |zero=>exact .cons he hl hs
   |succ i=>exact .cons h hl' (ih i)
def Rows.replicate {zr:ax}{zl:List Value}(h:ak w zr zl [])(hl:zl.length=sz):∀ n,Rows w sz (ZM n zr) (ZM n zl) (ZM n [])
 |0=>.nil
 |n+1=>by simp only[XI];exact .cons h hl (Rows.replicate h hl n)
def wg (off:Nat):∀ (l:List Value) (k:Nat) (cells:Array Value),off+k+l.length<=cells.size->
 (l.zipIdx k).foldl (fun cs (c,j)=>cs.setIfInBounds (off+j) c) cells=(cells.toList.take (off+k)++l++cells.toList.drop (off+k+l.length)).toArray
 |[],k,cells,_=>by simp
 | v::rest,k,cells,h=>by
   simp only[List.zipIdx_cons,List.foldl_cons];rw[wg off rest (k+1) _ (by simp at h ⊢;omega)]
   congr 1
   have e:=list_seg_step cells.toList (off+k) v rest (by simp at h ⊢;omega)
   simpa[Array.toList_setIfInBounds,YD]using e
def GA {vss:List (List Value)}(h:∀ vs∈vss,vs.length=sz):vss.flatten.length=vss.length*sz:=by
 induction vss with
 |nil=>simp
 |cons v vss ih=>simp[h v (by simp),ih (fun x hx=>h x (by simp[hx])),Zs,X9]
def wY:∀ {vss:List (List Value)},(∀ vs∈vss,vs.length=sz)->∀ (i:Nat) (vs:List Value),i<vss.length->vs.length=sz->
 vss.flatten.take (i*sz)++vs++vss.flatten.drop (i*sz+sz)=(vss.set i vs).flatten
 |[],_,i,vs,hi,_=>by simp at hi
 | v::vss,h,0,vs,_,hl=>by
   have hv:=h v (by simp);simp only[Y6,Y0,ZJ,Zx,ZZ,Y5];rw[<-hv,WJ]
 | v::vss,h,i+1,vs,hi,hl=>by
   have hv:=h v (by simp);have ih:=wY (vss:=vss) (fun x hx=>h x (by simp[hx])) i vs (by simpa using hi) hl;simp only[ZZ,XF];rw[<-ih];have e1:(v++vss.flatten).take ((i+1)*sz)=v++vss.flatten.take (i*sz):=by
    rw[Xp,Yj (by rw[hv,Zs];omega),hv,Zs];congr 2;omega
   have e2:(v++vss.flatten).drop ((i+1)*sz+sz)=vss.flatten.drop (i*sz+sz):=by
    rw[XE,Y1 (by rw[hv,Zs];omega),hv,Zs,ZJ];congr 1;omega
   rw[e1,e2];simp
def tt (vss:List (List Value)):List (Nat×Value)->List (List Value)
 |[]=>vss
 |(i,v)::ps=>tt (vss.set i v.cells.toList) ps
def Do:∀ (parts:List (Nat×Value)) (vss:List (List Value)),(∀ vs∈vss,vs.length=sz)->(∀ p∈parts,p.1<vss.length/\p.2.cells.size=sz)->
 Y8 (fun i=>some (i*sz,sz)) vss.flatten.toArray parts=some (tt vss parts).flatten.toArray
 |[],vss,_,_=>rfl
 | (i,v)::ps,vss,h,hp=>by
  obtain⟨h1,h2⟩:=hp (i,v) (by simp);have hfl:=GA h;have hle:i*sz+sz<=vss.length*sz:=by rw[<-Nat.succ_mul];exact Z4 _ h1
  simp only[Y8];have h2':v.cells.size=sz:=h2;rw[VF (by rw[h2',Yw,hfl];simp;exact hle)];have e1:Array.foldl (fun cs (x:Value×Nat)=>match x with|(c,j)=>cs.setIfInBounds (i*sz+j) c) vss.flatten.toArray v.cells.zipIdx=
   (vss.flatten.take (i*sz)++v.cells.toList++vss.flatten.drop (i*sz+sz)).toArray:=by
   rw[<-Array.foldl_toList];have:=wg (i*sz) v.cells.toList 0 vss.flatten.toArray (by simp only[Yw,hfl,ZS];simp only at h2;omega);simp only[Zi,ZS]at this;simp only at h2;rw[h2]at this
   simpa using this
  rw[e1,wY h i _ h1 (by simpa using h2)];exact Do ps _ (by
   intro vs yO;rcases List.mem_or_eq_of_mem_set yO with yO|rfl;exact h vs yO
   ·simpa using h2) (fun p hp'=>by have:=hp p (by simp[hp']);simpa using this)
def HI.toPks {ls:List (L×Option Nat)}{srcs:List (Nat×Nat)}{vs:List Value}{Ss:List (List Nat)}(h:HI g G w ls srcs vs Ss):zI g G w (ls.map fun x=>(.own x.1,x.2)) srcs vs Ss:=by
 induction h with
 |nil=>exact .nil
 |cons h hs ih=>exact .cons (.own h) ih
def HI.rec_ (hS:aO cx G g a w){ls:List (L×Option Nat)}{srcs:List (Nat×Nat)}{vs:List Value}{Ss:List (List Nat)}(h:HI g G w ls srcs vs Ss):ak w (ls.map (·.1)) vs Ss.flatten:=by
 induction h with
 |nil=>simp[ak]
 |cons h hs ih=>simp only[ZT,ak,ZZ];exact⟨_,_,_,_,rfl,(h.facts hS).1,ih,rfl⟩
def HI.facts (hS:aO cx G g a w){ls:List (L×Option Nat)}{srcs:List (Nat×Nat)}{vs:List Value}{Ss:List (List Nat)}(h:HI g G w ls srcs vs Ss)(hd:bp srcs=true):
 Ss.flatten.Nodup/\∀ b∈Ss.flatten,eV w b/\∃ r j,(r,j)∈srcs/\G.ow b=some (.leaf r j):=by
 induction h with
 |nil=>exact⟨ZL,fun b hb=>by simp at hb⟩
 | cons h hs ih=>
   obtain⟨d1,d2,d3⟩:=cJ hd;obtain⟨i1,i2⟩:=ih d2;have f:=h.facts hS;refine⟨?_,fun b hb=>?_⟩
   ·rw[ZZ,Zu];refine⟨f.2.1,i1,fun b hb b' hb' e=>?_⟩;subst e;obtain⟨_,r,j,m1,m2⟩:=f.2.2 b hb;obtain⟨_,r',j',m3,m4⟩:=i2 b hb';rw[m2]at m4;cases m4;exact d3 _ m1 m3
   ·rw[ZZ,Zg]at hb;rcases hb with hb|hb
    ·obtain⟨u,r,j,m1,m2⟩:=f.2.2 b hb;exact⟨u,r,j,by simp[m1],m2⟩
    ·obtain⟨u,r,j,m1,m2⟩:=i2 b hb;exact⟨u,r,j,by simp[m1],m2⟩
def HI.one (hS:aO cx G g a w){ls:List (L×Option Nat)}{srcs:List (Nat×Nat)}{vs:List Value}{Ss:List (List Nat)}(h:HI g G w ls srcs vs Ss):∀ u∈vs,u.oneCell'=true:=h.toPks.one hS
structure Pt where
 i:Nat
 ls:ax
 v:Value
 vs:List Value
 S:List Nat
inductive RB (g:Gm)(G:Gh)(w:World)(sz len:Nat):List Pt->List (Nat×Nat)->Prop
 |nil:RB g G w sz len [] []
 | cons {p ps src srcs} (h:ak w p.ls p.vs p.S) (hl:p.vs.length=sz) (hv:p.v.cells=p.vs.toArray) (hi:p.i<len) (hn:bp src=true->p.S.Nodup)
    (ht:∀ b∈p.S,eV w b/\∃ r j,(r,j)∈src/\G.ow b=some (.leaf r j)) (hs:RB g G w sz len ps srcs):RB g G w sz len (p::ps) (src++srcs)
def sT (hS:aO cx G g a w){ti:TI}{len:Nat}(hsz:ti.slots.length=sz){α:Type}:∀ (ps:List (Nat×Operand)) (k:List (Nat×ax)->List (Nat×Nat)->Rd α) (ls:List Loc) (out:α),
 (partsOf ti len ps k).Runs g ls out->∃ (pts:List Pt) (srcs:List (Nat×Nat)) (ls':List Loc),RB g G w sz len pts srcs/\ps.map (fun x=>(x.1,a.eval x.2))=pts.map (fun p=>(p.i,p.v))/\(k (pts.map fun p=>(p.i,p.ls)) srcs).Runs g ls' out
 |[],k,ls,out,h=>⟨[],[],ls,.nil,rfl,by simpa[partsOf]using h⟩
 | (i,x)::ps,k,ls,out,h=>by
  simp only[partsOf]at h;split at h
  ·rename_i hi;obtain⟨r,ls1,hr,h⟩:=dI hS h;cases hl:dK r with
   |none=>simp[hl,Rd.Runs]at h
   | some as=>
     simp only[hl]at h;obtain⟨vs,yO,hv⟩:=iZ r as _ hl hr;obtain⟨lts,src,Ss,ls2,t,tl,h⟩:=fX hS _ _ _ yO _ _ _ h;obtain⟨pts,srcs,ls3,h1,h2,h3⟩:=sT hS hsz ps _ _ _ h;have hc:=rh hv (t.one hS);have hlen:vs.length=sz:=by rw[(t.toPks.length).1];simp[tl,hsz]
     refine⟨⟨i,lts.map (·.1),a.eval x,vs,Ss.flatten⟩::pts,src++srcs,ls3,.cons (t.rec_ hS) hlen hc hi (fun hd=>(t.facts hS hd).1) ?_ h1,by simp[h2],h3⟩;intro b hb;clear h2 h3 h1 hl hr hv hc;have key:∀ {ls:List (L×Option Nat)} {srcs:List (Nat×Nat)} {vs:List Value} {Ss:List (List Nat)},HI g G w ls srcs vs Ss->∀ b∈Ss.flatten,eV w b/\∃ r j,(r,j)∈srcs/\G.ow b=some (.leaf r j):=by
      intro ls srcs vs Ss ht
      induction ht with
      |nil=>intro b hb;simp at hb
      | cons h hs ih=>
        intro b hb;rw[ZZ,Zg]at hb;rcases hb with hb|hb
        ·obtain⟨u,r,j,m1,m2⟩:=(h.facts hS).2.2 b hb;exact⟨u,r,j,by simp[m1],m2⟩
        ·obtain⟨u,r,j,m1,m2⟩:=ih b hb;exact⟨u,r,j,by simp[m1],m2⟩
     exact key t b hb
  ·simp[Rd.Runs]at h
def DL:∀ {Ss:List (List Nat)} {S:List Nat},Ss.flatten.Nodup->S.Nodup->(∀ b∈S,b∉Ss.flatten)->∀ i,(Ss.set i S).flatten.Nodup/\∀ b∈(Ss.set i S).flatten,b∈Ss.flatten\/b∈S
 |[],S,h,hS,hd,i=>by simp
 | T::Ss,S,h,hS,hd,0=>by
   rw[ZZ,Zu]at h;simp only[Y5,ZZ];refine⟨Zu.2 ⟨hS,h.2.1,fun b hb b' hb' e=>hd b hb (by subst e;simp[hb'])⟩,fun b hb=>?_⟩;rcases Zg.1 hb with hb|hb;exact .inr hb;exact .inl (by simp[hb])
 | T::Ss,S,h,hS,hd,i+1=>by
   rw[ZZ,Zu]at h;simp only[ZZ,Zg,not_or]at hd;obtain⟨k1,k2⟩:=DL h.2.1 hS (fun b hb=>(hd b hb).2) i;simp only[XF,ZZ];refine⟨Zu.2 ⟨h.1,k1,fun b hb b' hb' e=>?_⟩,fun b hb=>?_⟩
   ·subst e;rcases k2 b hb' with q|q;exact h.2.2 b hb b q rfl;exact(hd b q).1 hb
   ·rcases Zg.1 hb with hb|hb;exact .inl (by simp[hb])
    ·rcases k2 b hb with q|q;exact .inl (by simp[q]);exact .inr q
def RB.place {len:Nat}:∀ {pts:List Pt} {srcs:List (Nat×Nat)},RB g G w sz len pts srcs->bp srcs=true->∀ (used:List (Nat×Nat)),(∀ p∈srcs,p∉used)->
 ∀ (es:ab) (vss:List (List Value)) (Ss:List (List Nat)),Rows w sz es vss Ss->Ss.flatten.Nodup->(∀ b∈Ss.flatten,eV w b/\∃ r j,(r,j)∈used/\G.ow b=some (.leaf r j))->
 ∃ Ss',Rows w sz (gB es (pts.map fun p=>(p.i,p.ls))) (tt vss (pts.map fun p=>(p.i,p.v))) Ss'/\Ss'.flatten.Nodup/\∀ b∈Ss'.flatten,eV w b/\∃ r j,((r,j)∈used\/(r,j)∈srcs)/\G.ow b=some (.leaf r j):=by
 intro pts srcs h
 induction h with
 | nil=>
   intro _ used _ es vss Ss hr hn ht;refine⟨Ss,by simpa[gB,tt]using hr,hn,fun b hb=>?_⟩;obtain⟨u,r,j,m1,m2⟩:=ht b hb;exact⟨u,r,j,.inl m1,m2⟩
 | @cons p ps src srcs hrec hl hv hi hnd htok hs ih=>
   intro hd used hu es vss Ss hr hn ht;obtain⟨d1,d2,d3⟩:=cJ hd;have hdis:∀ b∈p.S,b∉Ss.flatten:=by
    intro b hb hb2;obtain⟨_,r,j,m1,m2⟩:=htok b hb;obtain⟨_,r',j',m3,m4⟩:=ht b hb2;rw[m2]at m4;cases m4;exact hu _ (by simp[m1]) m3
   obtain⟨n1,n2⟩:=DL hn (hnd d1) hdis p.i;obtain⟨Ss',k1,k2,k3⟩:=ih d2 (used++src) (fun q hq=>by
    simp only[Zg,not_or];exact⟨hu q (by simp[hq]),fun hq2=>d3 q hq2 hq⟩) (es.set p.i p.ls) (vss.set p.i p.vs) (Ss.set p.i p.S) (hr.set hrec hl p.i) n1 (fun b hb=>by
    rcases n2 b hb with q|q
    ·obtain⟨u,r,j,m1,m2⟩:=ht b q;exact⟨u,r,j,by simp[m1],m2⟩
    ·obtain⟨u,r,j,m1,m2⟩:=htok b q;exact⟨u,r,j,by simp[m1],m2⟩)
   refine⟨Ss',?_,k2,fun b hb=>?_⟩
   ·simp only[ZT,gB,tt,hv];exact k1
   ·obtain⟨u,r,j,m1,m2⟩:=k3 b hb;refine⟨u,r,j,?_,m2⟩;rcases m1 with m1|m1
    ·rcases Zg.1 m1 with m1|m1;exact .inl m1;exact .inr (by simp[m1])
    ·exact .inr (by simp[m1])
def RB.cells {len:Nat}{pts:List Pt}{srcs:List (Nat×Nat)}(h:RB g G w sz len pts srcs):∀ p∈pts.map (fun p=>(p.i,p.v)),p.1<len/\p.2.cells.size=sz:=by
 induction h with
 |nil=>intro p hp;simp at hp
 | cons hrec hl hv hi hnd htok hs ih=>
   intro p hp;simp only[ZT,Zk]at hp;rcases hp with rfl|hp;exact⟨hi,by simp[hv,hl]⟩;exact ih p hp
def ja:∀ (ps:List (Nat×ax)) (z:ab),(gB z ps).length=z.length
 |[],_=>rfl
 |(i,ls)::ps,z=>by simp[gB,ja ps]
variable {ls: List Loc} {ws: List W} {K: Act -> World -> Prop} {Q: Exit -> Act -> World -> Prop}
def vm {t:TypeId}{len:Nat}{parts:Array (Nat×Operand)}(ho:o.op=.buildSlice t len parts)(hS:aO cx G g a w)(h:(j7 P cx.n o.dst t len parts).Runs g ls (.ws ws)) 
 (hk:∀ a' w',fC cx (aT g ws) a' w'->K a' w'):o.wp P a w K Q:=by
 unfold j7 at h;split at h
 ·simp[Rd.Runs]at h
 ·rename_i e ti bytes hel;obtain⟨e1,e2,inf,e3,e4,e5,e6⟩:=oX hel;obtain⟨i,z,f1,f2,f3,f4,f5⟩:=hD e2;rw[e3]at f1;cases f1;obtain⟨z1,z2,z3⟩:=iw f4;have hzs:z.cells.size=ti.zero.length:=by simpa using z2
  split at h
  ·rename_i hmax;obtain⟨pts,srcs,ls1,hp,hpe,h⟩:=sT (sz:=ti.zero.length) hS z3 _ _ _ _ h;split at h
   ·rename_i hdist;obtain⟨w1,ls4,hS1,h,hg1,hg2⟩:=gy srcs g hS (fun _ _ _=>rfl) hdist _ _ _ h;obtain⟨d,ls2,hd,hlt,hm,h⟩:=cV h;simp only[Rd.Runs,Out.ws.injEq]at h;obtain⟨_,rfl⟩:=h;have hm1:aT g w1 (.meta_ d)=none:=by rw[hg2 _ (by intro r j e;cases e)];exact hm
    obtain⟨Ss,k1,k2,k3⟩:=hp.place hdist [] (fun _ _ hq=>by cases hq) _ _ _ (Rows.replicate (z1 w) (by simpa using hzs) len) (by induction len<;>simp_all [XI])
     (fun b hb=>by simp at hb)
    have hrd:=k1.rdEs;have hrows:∀ vs∈ZM len z.cells.toList,vs.length=ti.zero.length:=by
     intro vs yO;rw[(List.mem_replicate.1 yO).2];simpa using hzs
    have hfill:=Do (sz:=ti.zero.length) (pts.map fun p=>(p.i,p.v)) (ZM len z.cells.toList) hrows (by simpa using hp.cells)
    let cur:=(tt (ZM len z.cells.toList) (pts.map fun p=>(p.i,p.v))).flatten.toArray
    have hpe':(parts.map fun x=>(x.1,a.eval x.2)).toList=pts.map fun p=>(p.i,p.v):=by simpa using hpe
    have hzero:((Wh (len*ti.zero.length)).map (z.cells[· %z.cells.size]!))=(ZM len z.cells.toList).flatten.toArray:=by
     have:=HH z.cells len;rw[hzs]at this ⊢;rw[<-this]
    have hcl:cur.size=len*ti.zero.length:=by
     have:=hrd.length;simp only[cur,Yw];rw[this,ja];simp
    refine dM (v:=.slice (some ⟨w.heap.size,0,none⟩) len len) (w':=w.alloc (.cells cur e)) ?_ (hk _ _ ?_)
    ·unfold execOp;simp only[ho,Instr.buildSlice,ZQ,run_underlying e1,Z2,run_sizeOf e3,e6];rw[VF Uc];by_cases hz:len*ti.zero.length=0
     ·have hl0:len=0:=by
       rcases Nat.mul_eq_zero.1 hz with h|h;exact h;omega
      subst hl0;have hpn:pts=[]:=by
       cases pts with
       |nil=>rfl
       |cons p ps=>have:=(hp.cells (p.i,p.v) (by simp)).1;omega
      subst hpn;have hpn2:parts= #[]:=by simpa using hpe
      subst hpn2;simp[Y8,newRow,cur,tt,Array.range_zero']
     ·simp only[VF hz,zeroValue,typeInfo,ZQ,run_program,Z2,e3,Yi,f2,hpe',hzero,hfill];simp[newRow,cur]
    ·rw[cr,hd];refine hS1.newRow hlt hm1 _ (qb w _) w.heap.size cur e (Zf _) (heap_alloc_new w _) _ _ len len (by rw[ja];simp) (Zf _) ?_ (by rw[hcl];exact Zf _) Ss.flatten ?_ k2 ?_
     ·unfold maxLen;have:len<=len*ti.zero.length:=Nat.le_mul_of_pos_right _ Uc;omega
     ·have:cur.toList.take (len*ti.zero.length)=cur.toList:=Yj (by simp[hcl]);rw[this];exact bH.keep _ _ _ _ hrd (fun b hb=>heap_alloc_old w _ ((k3 b hb).1.lt))
     ·intro b hb;obtain⟨u,r,j,m1,m2⟩:=k3 b hb;refine⟨u.keep (heap_alloc_old w _ u.lt),.inr ⟨r,j,m2,fun h l q1 q2=>?_⟩,fun e=>by have:=u.lt;omega⟩;rcases m1 with m1|m1
      ·cases m1
      ·obtain⟨h',p1,p2⟩:=hg1 r j m1;rw[av,p1]at q1;cases q1;rw[p2]at q2;cases q2
   ·simp[Rd.Runs]at h
  ·simp[Rd.Runs]at h
end
end Go.V