/- A part of the proof of TopFares: the abstract machine, the code that the statement reaches, the contracts of its functions. Part 0. The text is made short by a program. -/
import Derived.Calls
import Derived.Below
import Derived.Laws.Sem
import Derived.Laws.World
import Derived.Laws.Cells
import Derived.Deep.Quiet
import Derived.Deep.LoopGhost
import Derived.Scope
import Derived.ScopeJumps
import Derived.Laws.Strings
import Derived.Laws.StructEq
import Derived.Maps.RangeRun
import Derived.Laws.BytesString
import Derived.MapKept
import Derived.LaidEql
import Derived.Orders
import Derived.ChangeShapes
import Derived.ChangeSame
import Derived.ChangeArms
import Derived.ChangeOld
import Derived.Carry
import Derived.RowKit
import Derived.Handed
import Derived.Stop.Joined
import Derived.LaidLaws
import Derived.Attr
import Derived.Test.YtbndjigedmpplaaGreatProg
import Derived.KernelRfl
set_option linter.unusedSimpArgs false
set_option linter.unusedVariables false
set_option linter.unusedSectionVars false
set_option maxHeartbeats 1000000
set_option maxRecDepth 10000
open Array renaming getD_eq_getD_getElem?->ih,getElem?_eq_some_iff->la
open BitVec renaming ofInt->iv
open Bool renaming and_eq_true->b_,false_eq_true->i_,not_eq_true'->lH
open ByteArray renaming mk->rU
open List renaming append_nil->fU,ext_getElem?->oF,getD->kK,getElem?_append_left->gh,getElem?_append_right->jX,getElem?_cons_zero->ja,getElem?_drop->kL,getElem?_eq_getElem->gd,getElem?_eq_none->lJ,getElem?_eq_some_iff->bn,getElem?_map->gY,getElem?_of_mem->ij,getElem?_set_ne->dx,getElem?_set_self->eC,getElem?_take_of_lt->hs,length_append->dT,length_cons->dz,length_map->eD,length_nil->gZ,length_set->eO,length_take->iw,map_cons->hQ,map_nil->lb,mem_singleton->ht,range->c1,replicate->fV
open Nat renaming add_assoc->kM,add_mul->ik,add_zero->iJ,beq->ep,blt->il,eq_of_beq_eq_true->oI,le_refl->cF,le_trans->jH,mul_le_mul_right->jo,mul_one->kN,sub_self->mH,zero_add->ev,zero_le->fG
open Ne renaming symm->gi
open Option renaming map_eq_some_iff->dJ,map_some->mI
open Option.some renaming injEq->aV
open Prod.mk renaming injEq->dX
namespace Go.aQ
open Go.RowKit (Below)
inductive c3 where
 |nil|full|any|cv
 deriving DecidableEq
inductive V where
 |undef
 |bool (b:Bool)
 |int (k:IntKind) (n:Int)
 |str (s:List UInt8)
 |dm
 |gu
 |jB
 |slice (rows:List (List V)) (c:c3)
 |gC (cells:List V)
 |cN (cells:List V)
 |dH (f:Nat) (da:List V)
 |ptr (id off:Nat)
 |fo (id ver row off:Nat)
 |aX (id ver start len:Nat)
 |map (id:Nat)
 |fn (f:Nat) (da:List V)
 |agg (cells:List V)
 |tuple (vs:List V)
 deriving Inhabited
def V.kd:V->Bool
 |.bool _|.int _ _|.str _|.dm|.gu|.jB|.slice _ _|.gC _|.cN _|.dH _ _=>true
 |_=>false
def V.iA:V->Bool
 |.undef|.agg _|.tuple _=>false
 |_=>true
def V.vK:V->Bool
 |.bool _|.int _ _|.str _=>true
 |_=>false
def V.qc:V->Bool
 |.agg cells=>cells.all V.vK
 |v=>v.vK
inductive a2 where
 |box (cells:List V)
 |arr (sz:Nat) (rows:List (List V)) (ver fz:Nat)
 |map (es:List (V×V))
 |vec (cells:List V) (ver:Nat)
 |iter (mid n:Nat) (seen:List Nat)
 |dead
 deriving Inhabited
abbrev Mem:=List a2
structure Loc where
 b:Nat
 box:Bool
 live:Bool
 sz:Nat
 cap:Nat
 ver:Nat
def Loc.aLR(l:Loc)(start len:Nat)(v:Value):Prop:=
 (l.live=false/\len=0/\v=.slice none 0 0)∨(l.live=true/\start+len<=l.cap/\∃o cap,v=.slice (some ⟨l.b,o,none⟩) len cap/\start+cap<=l.cap/\len<=cap/\(0<cap->o=start*l.sz))
structure Env where
 h1:Nat
 cW:List Loc
 S:Nat->Nat->Prop
def k6(w:World)(b o:Nat):Option Value×Option (Nat×Nat):=
 (w.cell? ⟨b,o,none⟩,match w.heap[b]? with|some (.cells _ _ f)=>some f|_=>none)
inductive bp(w:World)(Γ:Env):V->Value->Prop
 |undef (v:Value):bp w Γ .undef v
 |bool (b:Bool):bp w Γ (.bool b) (.bool b)
 |int (k:IntKind) (n:Int):bp w Γ (.int k n) (.int k n)
 |str (s:List UInt8):bp w Γ (.str s) (.string ⟨s.toArray⟩)
 |dm:bp w Γ .dm (.pointer none)
 |gu:bp w Γ .gu .nilFunc
 |jB:bp w Γ .jB (.map none)
 |iE (c:c3) (ar:c=.nil∨c=.cv):bp w Γ (.slice [] c) (.slice none 0 0)
 |lE (c:c3) (ar:c≠.nil) (p:Addr):bp w Γ (.slice [] c) (.slice (some p) 0 0)
 |slice (rows:List (List V)) (c:c3) (b o sz cap:Nat) (bl:Nat->Nat->Value) (ar:c≠.nil) (aC:c=.full->cap=rows.length) (fZ:rows.length<=cap)
   (fP:∀(i:Nat)(r:List V),rows[i]? =some r->r.length=sz)
   (ak:∀i j,i<rows.length->j<sz->Γ.S b (o+(i*sz+j)))
   (dL:∀i j,i<rows.length->j<sz->w.cell? ⟨b,o+(i*sz+j),none⟩=some (bl i j))
   (ax:∀(i:Nat)(r:List V)(j:Nat)(x:V),rows[i]? =some r->r[j]? =some x->x.kd=true)
   (al:∀(i:Nat)(r:List V)(j:Nat)(x:V),rows[i]? =some r->r[j]? =some x->bp w Γ x (bl i j)):
   bp w Γ (.slice rows c) (.slice (some ⟨b,o,none⟩) rows.length cap)
 |gC (cells:List V) (b o:Nat) (bl:Nat->Value)
   (ak:∀j,j<cells.length->Γ.S b (o+j))
   (dL:∀j,j<cells.length->w.cell? ⟨b,o+j,none⟩=some (bl j))
   (ax:∀(j:Nat)(x:V),cells[j]? =some x->x.kd=true)
   (al:∀(j:Nat)(x:V),cells[j]? =some x->bp w Γ x (bl j)):
   bp w Γ (.gC cells) (.pointer (some ⟨b,o,none⟩))
 |cN (cells:List V) (b o:Nat) (bl:Nat->Value) (aK:0<cells.length)
   (ak:∀j,j<cells.length->Γ.S b (o+j))
   (dL:∀j,j<cells.length->k6 w b (o+j)=(some (bl j),some (0,0)))
   (ax:∀(j:Nat)(x:V),cells[j]? =some x->x.kd=true)
   (al:∀(j:Nat)(x:V),cells[j]? =some x->bp w Γ x (bl j)):
   bp w Γ (.cN cells) (.pointer (some ⟨b,o,none⟩))
 |dH (f:Nat) (da:List V) (bl:Array Value) (ag:bl.size=da.length)
   (ax:∀(j:Nat)(x:V),da[j]? =some x->x.kd=true)
   (al:∀(j:Nat)(x:V),da[j]? =some x->bp w Γ x (bl.getD j Go.undef)):bp w Γ (.dH f da) (.func (.func f) #[] bl)
 |ptr (id off:Nat) (l:Loc) (ag:Γ.cW[id]? =some l) (aj:l.box=true) (aq:l.live=true):bp w Γ (.ptr id off) (.pointer (some ⟨l.b,off,none⟩))
 |fo (id ver row off:Nat) (l:Loc) (ag:Γ.cW[id]? =some l) (aq:ver<=l.ver) (p:Addr)
   (h:l.ver=ver->p=⟨l.b,row*l.sz+off,none⟩):bp w Γ (.fo id ver row off) (.pointer (some p))
 |aX (id ver start len:Nat) (l:Loc) (ag:Γ.cW[id]? =some l) (aq:ver<=l.ver) (v:Value)
   (h:l.ver=ver->l.aLR start len v) (ar:v.oneCell'=true):bp w Γ (.aX id ver start len) v
 |map (id:Nat) (l:Loc) (ag:Γ.cW[id]? =some l) (aj:l.box=true) (aq:l.live=true):bp w Γ (.map id) (.map (some l.b))
 |fn (f:Nat) (da:List V) (bl:Array Value) (ag:bl.size=da.length)
   (al:∀(j:Nat)(x:V),da[j]? =some x->bp w Γ x (bl.getD j Go.undef)):bp w Γ (.fn f da) (.func (.func f) #[] bl)
 |agg (cells:List V) (bl:Array Value) (ag:bl.size=cells.length)
   (al:∀(j:Nat)(x:V),cells[j]? =some x->bp w Γ x (bl.getD j Go.undef)):bp w Γ (.agg cells) (.agg bl)
 |tuple (vs:List V) (bl:Array Value) (ag:bl.size=vs.length)
   (al:∀(j:Nat)(x:V),vs[j]? =some x->bp w Γ x (bl.getD j Go.undef)):bp w Γ (.tuple vs) (.tuple bl)
def ef(w:World)(Γ:Env)(xs:List V)(cs:Array Value):Prop:=
 cs.size=xs.length/\∀(j:Nat)(x:V),xs[j]? =some x->bp w Γ x (cs.getD j Go.undef)
structure Ext(w:World)(Γ:Env)(w':World)(Γ':Env):Prop where
 s:∀b o,Γ.S b o->Γ'.S b o/\k6 w' b o=k6 w b o
 cW:∀(i:Nat)(l:Loc),Γ.cW[i]? =some l->∃l',Γ'.cW[i]? =some l'/\l.ver<=l'.ver/\(l'.ver=l.ver->l'=l)/\(l.box=true->l'=l)
 cq:Γ'.h1=Γ.h1
 below:Below Γ.h1 w w'
 rL:∀b o,b<Γ.h1->Γ'.S b o->Γ.S b o
def GT(_:World):Prop:=True
theorem Ext.mB{w w':World}{Γ Γ':Env}(h:Ext w Γ w' Γ')(b o:Nat)(ak:Γ.S b o):Γ'.S b o/\w'.cell? ⟨b,o,none⟩=w.cell? ⟨b,o,none⟩:=⟨(h.s b o ak).1,congrArg Prod.fst (h.s b o ak).2⟩
theorem Ext.refl(w:World)(Γ:Env):Ext w Γ w Γ:=
 ⟨fun _ _ h=>⟨h,rfl⟩,fun _ l h=>⟨l,h,cF _,fun _=>rfl,fun _=>rfl⟩,rfl,Below.refl _ _,fun _ _ _ h=>h⟩
theorem Ext.trans{hp lF we:World}{oE Ew XB:Env}(h:Ext hp oE lF Ew)(k:Ext lF Ew we XB):Ext hp oE we XB where
 s b o ak:=⟨(k.s b o (h.s b o ak).1).1,((k.s b o (h.s b o ak).1).2).trans (h.s b o ak).2⟩
 cW i l ag:=by
  obtain⟨eW,af,mC,ba,dF⟩:=h.cW i l ag;obtain⟨mv,ay,Em,e3,mN⟩:=k.cW i eW af;refine⟨mv,ay,jH mC Em,fun e=>?_,fun aj=>?_⟩
  . have aq:eW.ver=l.ver:=by omega
    have:=ba aq;subst this;exact e3 e
  . have:=dF aj
    subst this;exact mN aj
 cq:=k.cq.trans h.cq
 below:=h.below.trans (h.cq▸k.below)
 rL b o aj ak:=h.rL b o aj (k.rL b o (by rw[h.cq];exact aj) ak)
theorem bp.ext{w w':World}{Γ Γ':Env}(he:Ext w Γ w' Γ'){x:V}{v:Value}(h:bp w Γ x v):bp w' Γ' x v:=by
 induction h with
 |undef v=>exact .undef v
 |bool b=>exact .bool b
 |int k n=>exact .int k n
 |str s=>exact .str s
 |dm=>exact .dm
 |gu=>exact .gu
 |jB=>exact .jB
 |iE c ar=>exact .iE c ar
 |lE c ar p=>exact .lE c ar p
 |slice rows c b o sz cap bl ar aC fZ fP ak dL ax al bq=>
  exact .slice rows c b o sz cap bl ar aC fZ fP (fun i j hi ap=>(he.s _ _ (ak i j hi ap)).1) (fun i j hi ap=>(he.mB _ _ (ak i j hi ap)).2.trans (dL i j hi ap)) ax bq
 |gC cells b o bl ak dL ax al bq=>
  exact .gC cells b o bl (fun j ap=>(he.s _ _ (ak j ap)).1) (fun j ap=>(he.mB _ _ (ak j ap)).2.trans (dL j ap)) ax bq
 |cN cells b o bl aK ak dL ax al bq=>
  exact .cN cells b o bl aK (fun j ap=>(he.s _ _ (ak j ap)).1) (fun j ap=>(he.s _ _ (ak j ap)).2.trans (dL j ap)) ax bq
 |dH f da bl ag ax al bq=>exact .dH f da bl ag ax bq
 |ptr id off l ag aj aq=>
  obtain⟨l',gG,_,_,af⟩:=he.cW id l ag;have:=af aj;subst this;exact .ptr id off _ gG aj aq
 |fo id ver row off l ag aq v h=>
  obtain⟨l',gG,dV,af,_⟩:=he.cW id l ag;refine .fo id ver row off l' gG (by omega) v fun e=>?_;have ba:l'.ver=l.ver:=by omega
  have:=af ba;subst this;exact h e
 |aX id ver start len l ag aq v h ar=>
  obtain⟨l',gG,dV,af,_⟩:=he.cW id l ag;refine .aX id ver start len l' gG (by omega) v (fun e=>?_) ar;have ba:l'.ver=l.ver:=by omega
  have:=af ba;subst this;exact h e
 |map id l ag aj aq=>
  obtain⟨l',gG,_,_,af⟩:=he.cW id l ag;have:=af aj;subst this;exact .map id _ gG aj aq
 |fn f da bl ag al bq=>exact .fn f da bl ag bq
 |agg cells bl ag al bq=>exact .agg cells bl ag bq
 |tuple vs bl ag al bq=>exact .tuple vs bl ag bq
theorem bp.D9{w w':World}{Γ Γ':Env}(ak:∀b o,Γ.S b o->Γ'.S b o/\k6 w' b o=k6 w b o){x:V}{v:Value}(h:bp w Γ x v)(ab:x.kd=true):bp w' Γ' x v:=by
 induction h with
 |bool b=>exact .bool b
 |int k n=>exact .int k n
 |str s=>exact .str s
 |dm=>exact .dm
 |gu=>exact .gu
 |jB=>exact .jB
 |iE c ar=>exact .iE c ar
 |lE c ar p=>exact .lE c ar p
 |slice rows c b o sz cap bl ar aC fZ fP k0 dL ax al bq=>
  exact .slice rows c b o sz cap bl ar aC fZ fP (fun i j hi ap=>(ak _ _ (k0 i j hi ap)).1) (fun i j hi ap=>(congrArg Prod.fst (ak _ _ (k0 i j hi ap)).2).trans (dL i j hi ap)) ax
   (fun i r j x U af=>bq i r j x U af (ax i r j x U af))
 |gC cells b o bl k0 dL ax al bq=>
  exact .gC cells b o bl (fun j ap=>(ak _ _ (k0 j ap)).1) (fun j ap=>(congrArg Prod.fst (ak _ _ (k0 j ap)).2).trans (dL j ap)) ax (fun j x U=>bq j x U (ax j x U))
 |cN cells b o bl aK k0 dL ax al bq=>
  exact .cN cells b o bl aK (fun j ap=>(ak _ _ (k0 j ap)).1) (fun j ap=>(ak _ _ (k0 j ap)).2.trans (dL j ap)) ax (fun j x U=>bq j x U (ax j x U))
 |dH f da bl ag ax al bq=>exact .dH f da bl ag ax (fun j x U=>bq j x U (ax j x U))
 |undef v=>cases ab
 |ptr _ _ _ _ _ _=>cases ab
 |fo _ _ _ _ _ _ _ _ _=>cases ab
 |aX _ _ _ _ _ _ _ _ _ _=>cases ab
 |map _ _ _ _ _=>cases ab
 |fn _ _ _ _ _ _=>cases ab
 |agg _ _ _ _ _=>cases ab
 |tuple _ _ _ _ _=>cases ab
def uy(w:World)(Γ:Env)(l:Loc):a2->Prop
 |.box cells=>l.box=true/\l.live=true/\(∀o,¬Γ.S l.b o)/\∃c T,w.heap[l.b]? =some (.cells c T (0,0))/\ef w Γ cells c
 |.arr sz rows ver fz=>l.box=false/\l.sz=sz/\l.ver=ver/\fz<=rows.length/\rows.length<=l.cap/\(l.live=false->l.cap=0)/\
   (∀(i:Nat)(r:List V),rows[i]? =some r->r.length=l.sz)/\(∀(i:Nat)(r:List V)(j:Nat)(x:V),rows[i]? =some r->r[j]? =some x->x.kd=true)/\
   (l.live=true->(∀o,Γ.S l.b o↔o<fz*l.sz)/\∃c T,w.heap[l.b]? =some (.cells c T (0,0))/\c.size=l.cap*l.sz/\
     ∀(i:Nat)(r:List V)(j:Nat)(x:V),rows[i]? =some r->r[j]? =some x->bp w Γ x (c.getD (i*l.sz+j) Go.undef))
 |.map es=>l.box=true/\l.live=true/\(∀o,¬Γ.S l.b o)/\∃c8 clock,w.heap[l.b]? =some (.map c8 clock)/\c8.size=es.length/\
   (∀(i:Nat)(e:MapEntry)(cx:V×V),c8[i]? =some e->es[i]? =some cx->cx.1.qc=true/\cx.2.iA=true/\bp w Γ cx.1 e.key/\bp w Γ cx.2 e.val/\e.born=i)/\clock=es.length
 |.vec cells ver=>l.box=false/\l.sz=1/\l.ver=ver/\cells.length<=l.cap/\(l.live=false->l.cap=0)/\
   (l.live=true->(∀o,¬Γ.S l.b o)/\∃c T,w.heap[l.b]? =some (.cells c T (0,0))/\c.size=l.cap/\∀(j:Nat)(x:V),cells[j]? =some x->bp w Γ x (c.getD j Go.undef))
 |.iter mid n seen=>l.box=true/\l.live=true/\(∀o,¬Γ.S l.b o)/\∃i1,Γ.cW[mid]? =some i1/\i1.box=true/\i1.live=true/\w.heap[l.b]? =some (.mapIter (some i1.b) n seen.toArray n)
 |.dead=>l.box=false/\l.live=false
structure Good(w:World)(Γ:Env)(M:Mem):Prop where
 len:Γ.cW.length=M.length
 eG:∀(i:Nat)(l:Loc)(B:a2),Γ.cW[i]? =some l->M[i]? =some B->uy w Γ l B
 cq:∀(i:Nat)(l:Loc),Γ.cW[i]? =some l->Γ.h1<=l.b
 inj:∀(i j:Nat)(l l':Loc),Γ.cW[i]? =some l->Γ.cW[j]? =some l'->l.live=true->l'.live=true->l.b=l'.b->i=j
 jC:∀b o,Γ.S b o->∃v,w.cell? ⟨b,o,none⟩=some v
 base:Γ.h1<=w.heap.size
 jE:∀w',Below Γ.h1 w w'->GT w'
end Go.aQ
namespace Go.aQ
open Go.RowKit (Below)
theorem km{w:World}{b o:Nat}{c:Array Value}{T:TypeId}{f:Nat×Nat}(h:w.heap[b]? =some (.cells c T f)):w.cell? ⟨b,o,none⟩=c[o]? :=by
 simp[World.cell?,h]
theorem jK{c:Array Value}{j:Nat}(h:j<c.size):c[j]? =some (c.getD j Go.undef):=by
 simp[h]
theorem ta{w w':World}{b o:Nat}(h:w'.heap[b]? =w.heap[b]?):w'.cell? ⟨b,o,none⟩=w.cell? ⟨b,o,none⟩:=by
 simp[World.cell?,h]
theorem v0{w w':World}{b o:Nat}(h:w'.heap[b]? =w.heap[b]?):k6 w' b o=k6 w b o:=by
 simp only[k6,ta h,h]
theorem NX{w w':World}{b o:Nat}{c c0:Array Value}{T EO:TypeId}{f:Nat×Nat}(h:w.heap[b]? =some (.cells c T f))(gG:w'.heap[b]? =some (.cells c0 EO f))
 (ar:w'.cell? ⟨b,o,none⟩=w.cell? ⟨b,o,none⟩):k6 w' b o=k6 w b o:=by
 simp only[k6,ar,h,gG]
theorem ef.ext{w w':World}{Γ Γ':Env}(he:Ext w Γ w' Γ'){xs:List V}{cs:Array Value}(h:ef w Γ xs cs):ef w' Γ' xs cs:=
 ⟨h.1,fun j x ab=>(h.2 j x ab).ext he⟩
theorem uy.fJ{w w':World}{Γ Γ':Env}(he:Ext w Γ w' Γ'){l:Loc}(ce:l.live=true->w'.heap[l.b]? =w.heap[l.b]?)(di:l.live=true->∀o,Γ'.S l.b o->Γ.S l.b o){B:a2}(h:uy w Γ l B):uy w' Γ' l B:=by
 cases B with
 |box cells=>
  obtain⟨U,aq,af,c,T,ay,be⟩:=h;exact⟨U,aq,fun o az=>af o (di aq o az),c,T,(ce aq).trans ay,be.ext he⟩
 |arr sz rows ver fz=>
  obtain⟨U,a4,af,ay,be,bv,b7,dQ,ch⟩:=h;refine⟨U,a4,af,ay,be,bv,b7,dQ,fun ar=>?_⟩;obtain⟨bv,c,T,ch,eL,fp⟩:=ch ar;exact⟨fun o=>⟨fun az=>(bv o).1 (di ar o az),fun az=>(he.s _ _ ((bv o).2 az)).1⟩,c,T,(ce ar).trans ch,eL,fun i r j x al ab=>(fp i r j x al ab).ext he⟩
 |map es=>
  obtain⟨U,aq,af,c8,clock,ay,be,bv,b7⟩:=h;exact⟨U,aq,fun o az=>af o (di aq o az),c8,clock,(ce aq).trans ay,be,fun i e cx dQ ch=>by
   obtain⟨a,b,c,d,e⟩:=bv i e cx dQ ch;exact⟨a,b,c.ext he,d.ext he,e⟩,b7⟩
 |vec cells ver=>
  obtain⟨U,a4,af,be,bv,ch⟩:=h;refine⟨U,a4,af,be,bv,fun ar=>?_⟩;obtain⟨bv,c,T,ch,eL,fp⟩:=ch ar;exact⟨fun o az=>bv o (di ar o az),c,T,(ce ar).trans ch,eL,fun j x ab=>(fp j x ab).ext he⟩
 |iter mid n seen=>
  obtain⟨U,aq,af,i1,ay,be,bv,b7⟩:=h;obtain⟨aIs,bH,_,_,b8⟩:=he.cW mid i1 ay;have:=b8 be;subst this;exact⟨U,aq,fun o az=>af o (di aq o az),_,bH,be,bv,(ce aq).trans b7⟩
 |dead=>exact h
theorem Ext.drew(w:World)(Γ:Env):Ext w Γ w.drew Γ:=
 ⟨fun _ _ h=>⟨h,rfl⟩,fun _ l h=>⟨l,h,cF _,fun _=>rfl,fun _=>rfl⟩,rfl,(Below.refl _ _).drew,fun _ _ _ h=>h⟩
theorem Good.ys{w w':World}{Γ Γ':Env}{M:Mem}(h:Good w Γ M)(he:Ext w Γ w' Γ'):∀hp,Below Γ'.h1 w' hp->GT hp:=fun hp U=>
 h.jE hp (he.below.trans (he.cq▸U))
theorem Good.drew{w:World}{Γ:Env}{M:Mem}(h:Good w Γ M):Good w.drew Γ M:=
 ⟨h.len,fun i l B ag bY=>(h.eG i l B ag bY).fJ (Ext.drew w Γ) (fun _=>rfl) (fun _ _ h=>h),h.cq,h.inj,h.jC,h.base,h.ys (Ext.drew w Γ)⟩
theorem Good.m0{w:World}{Γ:Env}{M:Mem}(h:Good w Γ M){i:Nat}{l:Loc}(ag:Γ.cW[i]? =some l)(aq:l.live=true):l.b<w.heap.size:=by
 have hi:i<M.length:=by rw[<-h.len];exact(bn.1 ag).1
 have bY:=h.eG i l M[i] ag (by simp[hi]);have key:∀o,w.heap[l.b]? =some o->l.b<w.heap.size:=fun o az=>(la.1 az).1;cases hm:M[i] with
 |box cells=>rw[hm] at bY;obtain⟨_,_,_,c,T,ay,_⟩:=bY;exact key _ ay
 |arr sz rows ver fz=>
  rw[hm] at bY;obtain⟨U,_,_,_,_,_,_,_,ch⟩:=bY;obtain⟨_,c,T,ay,_⟩:=ch aq;exact key _ ay
 |map es=>rw[hm] at bY;obtain⟨_,_,_,c8,clock,ay,_⟩:=bY;exact key _ ay
 |vec cells ver=>
  rw[hm] at bY;obtain⟨_,_,_,_,_,ch⟩:=bY;obtain⟨_,c,T,ay,_⟩:=ch aq;exact key _ ay
 |iter mid n seen=>rw[hm] at bY;obtain⟨_,_,_,i1,_,_,_,ay⟩:=bY;exact key _ ay
 |dead=>rw[hm] at bY;rw[bY.2] at aq;cases aq
theorem Good.rH{w:World}{Γ:Env}{M:Mem}(h:Good w Γ M){b o:Nat}(ak:Γ.S b o):b<w.heap.size:=by
 obtain⟨v,aq⟩:=h.jC b o ak;exact World.block_lt_of_cell? (a:=⟨b,o,none⟩) w aq
theorem nt(w:World)(o:Obj){k:Nat}(h:k<w.heap.size):(w.alloc o).heap[k]? =w.heap[k]? :=Below.heap_alloc w o k h
theorem heap_alloc_new(w:World)(o:Obj):(w.alloc o).heap[w.heap.size]? =some o:=by
 show(w.heap.push o)[w.heap.size]? =_;simp
def Env.imm(Γ:Env)(b n:Nat):Env:={Γ with S:=fun iM o=>Γ.S iM o∨(iM=b/\o<n)}
theorem Ext.uJ{w:World}{Γ:Env}{M:Mem}(h:Good w Γ M)(c:Array Value)(T:TypeId):
 Ext w Γ (w.alloc (.cells c T)) (Γ.imm w.heap.size c.size) where
 s b o ak:=⟨.inl ak,v0 (nt w _ (h.rH ak))⟩
 cW i l ag:=⟨l,ag,cF _,fun _=>rfl,fun _=>rfl⟩
 cq:=rfl
 below:=(Below.refl _ _).alloc h.base _
 rL b o aj ak:=by
  rcases ak with ak|⟨rfl,_⟩
  . exact ak
  . have:=h.base;omega
theorem Good.uJ{w:World}{Γ:Env}{M:Mem}(h:Good w Γ M)(c:Array Value)(T:TypeId):
 Good (w.alloc (.cells c T)) (Γ.imm w.heap.size c.size) M where
 len:=h.len
 eG i l B ag bY:=(h.eG i l B ag bY).fJ (Ext.uJ h c T) (fun aq=>nt w _ (h.m0 ag aq)) (fun aq o az=>by
  rcases az with az|⟨aj,_⟩
  . exact az
  . have:=h.m0 ag aq;omega)
 cq:=h.cq
 inj:=h.inj
 jC b o ak:=by
  rcases ak with ak|⟨rfl,az⟩
  . obtain⟨v,aq⟩:=h.jC b o ak
    exact⟨v,(ta (nt w _ (h.rH ak))).trans aq⟩
  . exact⟨c.getD o Go.undef,by rw[km (heap_alloc_new w _)];exact jK az⟩
 base:=by show Γ.h1<=_;have:=h.base;simp;omega
 jE:=h.ys (Ext.uJ h c T)
def Env.more(Γ:Env)(l:Loc):Env:={Γ with cW:=Γ.cW++[l]}
theorem Ext.oN{w:World}{Γ:Env}{M:Mem}(h:Good w Γ M)(o:Obj)(l:Loc):Ext w Γ (w.alloc o) (Γ.more l) where
 s b o ak:=⟨ak,v0 (nt w _ (h.rH ak))⟩
 cW i l ag:=⟨l,by
  have hi:i<Γ.cW.length:=(bn.1 ag).1;simp only[Env.more];rw[gh hi,ag],cF _,fun _=>rfl,fun _=>rfl⟩
 cq:=rfl
 below:=(Below.refl _ _).alloc h.base _
 rL b o aj ak:=ak
theorem Good.oN{w:World}{Γ:Env}{M:Mem}(h:Good w Γ M)(o:Obj)(l:Loc)(h9:l.b=w.heap.size)(B:a2)
 (bY:uy (w.alloc o) (Γ.more l) l B):Good (w.alloc o) (Γ.more l) (M++[B]):=by
 have split:∀i l',(Γ.more l).cW[i]? =some l'->(i<M.length/\Γ.cW[i]? =some l')∨(i=M.length/\l'=l):=by
  intro i l' ag;simp only[Env.more] at ag;by_cases hi:i<Γ.cW.length
  . rw[gh hi] at ag
    exact .inl ⟨by rw[<-h.len];exact hi,ag⟩
  . rw[jX (Nat.le_of_not_lt hi)] at ag
    have:i -Γ.cW.length=0:=by
     have:=(bn.1 ag).1;simp at this;omega
    rw[this] at ag;simp at ag;exact .inr ⟨by rw[<-h.len];omega,ag.symm⟩
 refine⟨by simp[Env.more,h.len],fun i l' sW ag h8=>?_,fun i l' ag=>?_,fun i j cU eW U af nc mC aj=>?_,fun b o ak=>?_,?_,h.ys (Ext.oN h o l)⟩
 . rcases split i l' ag with⟨hi,ei⟩|⟨hi,rfl⟩
   . rw[gh hi] at h8
     exact(h.eG i l' sW ei h8).fJ (Ext.oN h o l) (fun aq=>nt w _ (h.m0 ei aq)) (fun _ _ h=>h)
   . subst hi
     simp at h8;subst h8;exact bY
 . rcases split i l' ag with⟨hi,ei⟩|⟨hi,rfl⟩
   . exact h.cq i l' ei
   . show Γ.h1<=_;rw[h9];exact h.base
 . rcases split i cU U with⟨hi,fa⟩|⟨hi,rfl⟩<;>rcases split j eW af with⟨ap,gT⟩|⟨ap,rfl⟩
   . exact h.inj i j cU eW fa gT nc mC aj
   . have:=h.m0 fa nc;omega
   . have:=h.m0 gT mC;omega
   . omega
 . obtain⟨v,aq⟩:=h.jC b o ak
   exact⟨v,(ta (nt w _ (h.rH ak))).trans aq⟩
 . have:=h.base;simp[Env.more];omega
theorem Good.vQ{w:World}{Γ:Env}{M:Mem}(h:Good w Γ M)(o:Nat):¬Γ.S w.heap.size o:=fun ak=>by
 have:=h.rH ak;omega
def nl(b:Nat):Loc:=⟨b,true,true,0,0,0⟩
theorem Good.PA{w:World}{Γ:Env}{M:Mem}(h:Good w Γ M)(c:Array Value)(T:TypeId)(cells:List V)(al:ef w Γ cells c):
 Good (w.alloc (.cells c T)) (Γ.more (nl w.heap.size)) (M++[.box cells])/\Ext w Γ (w.alloc (.cells c T)) (Γ.more (nl w.heap.size))/\
  bp (w.alloc (.cells c T)) (Γ.more (nl w.heap.size)) (.ptr M.length 0) (.pointer (some ⟨w.heap.size,0,none⟩)):=by
 have he:=Ext.oN h (.cells c T) (nl w.heap.size);refine⟨h.oN _ _ rfl _ ⟨rfl,rfl,fun o az=>h.vQ o az,c,T,heap_alloc_new w _,al.ext he⟩,he,?_⟩;exact .ptr M.length 0 (nl w.heap.size) (by simp[Env.more,<-h.len]) rfl rfl
theorem Good.allocMap{w:World}{Γ:Env}{M:Mem}(h:Good w Γ M):
 Good (w.alloc (.map #[] 0)) (Γ.more (nl w.heap.size)) (M++[.map []])/\Ext w Γ (w.alloc (.map #[] 0)) (Γ.more (nl w.heap.size))/\
  bp (w.alloc (.map #[] 0)) (Γ.more (nl w.heap.size)) (.map M.length) (.map (some w.heap.size)):=by
 have he:=Ext.oN h (.map #[] 0) (nl w.heap.size);refine⟨h.oN _ _ rfl _ ⟨rfl,rfl,fun o az=>h.vQ o az,#[],0,heap_alloc_new w _,rfl,fun i e cx U=>by simp at U,rfl⟩,he,?_⟩;exact .map M.length (nl w.heap.size) (by simp[Env.more,<-h.len]) rfl rfl
theorem Good.aaS{w:World}{Γ:Env}{M:Mem}(h:Good w Γ M){mid n:Nat}{i1:Loc}(ag:Γ.cW[mid]? =some i1)(aj:i1.box=true)(aq:i1.live=true):
 Good (w.alloc (.mapIter (some i1.b) n #[] n)) (Γ.more (nl w.heap.size)) (M++[.iter mid n []])/\Ext w Γ (w.alloc (.mapIter (some i1.b) n #[] n)) (Γ.more (nl w.heap.size))/\
  bp (w.alloc (.mapIter (some i1.b) n #[] n)) (Γ.more (nl w.heap.size)) (.ptr M.length 0) (.pointer (some ⟨w.heap.size,0,none⟩)):=by
 have he:=Ext.oN h (.mapIter (some i1.b) n #[] n) (nl w.heap.size);obtain⟨aIs,bH,_,_,b8⟩:=he.cW mid i1 ag;have:=b8 aj;subst this;refine⟨h.oN _ _ rfl _ ⟨rfl,rfl,fun o az=>h.vQ o az,_,bH,aj,aq,heap_alloc_new w _⟩,he,?_⟩;exact .ptr M.length 0 (nl w.heap.size) (by simp[Env.more,<-h.len]) rfl rfl
theorem Ext.write{w w':World}{Γ:Env}{M:Mem}(h:Good w Γ M){id:Nat}{l:Loc}(ag:Γ.cW[id]? =some l)
 (ce:∀k,k≠l.b->w'.heap[k]? =w.heap[k]?)(fP:w'.heap.size=w.heap.size)(az:w'.os=w.os)(aT:w'.tape=w.tape)(aGt:w'.output=w.output)
 (ar:∀o,Γ.S l.b o->k6 w' l.b o=k6 w l.b o):Ext w Γ w' Γ where
 s b o ak:=⟨ak,by
  by_cases aj:b=l.b
  . subst aj;exact ar o ak
  . exact v0 (ce b aj)⟩
 cW i l ag:=⟨l,ag,cF _,fun _=>rfl,fun _=>rfl⟩
 cq:=rfl
 below:=⟨az,aT,aGt,by omega,fun k ao=>ce k (by have:=h.cq id l ag;omega)⟩
 rL b o _ ak:=ak
theorem Good.write{w w':World}{Γ:Env}{M:Mem}(h:Good w Γ M){id:Nat}{l:Loc}(ag:Γ.cW[id]? =some l)(aq:l.live=true)(he:Ext w Γ w' Γ)
 (ce:∀k,k≠l.b->w'.heap[k]? =w.heap[k]?){B:a2}(bY:uy w' Γ l B):Good w' Γ (M.set id B) where
 len:=by rw[eO];exact h.len
 eG i l' sW ei h8:=by
  by_cases hi:id=i
  . subst hi
    have bw:id<M.length:=by rw[<-h.len];exact(bn.1 ag).1
    rw[eC bw] at h8;simp only[aV] at h8;subst h8;rw[ag] at ei;simp only[aV] at ei;subst ei;exact bY
  . rw[dx hi] at h8
    exact(h.eG i l' sW ei h8).fJ he (fun pl=>ce _ (fun aj=>hi (h.inj id i l l' ag ei aq pl aj.symm))) (fun _ _ h=>h)
 cq:=h.cq
 inj:=h.inj
 jC b o ak:=by
  obtain⟨v,aq⟩:=h.jC b o ak;exact⟨v,(he.mB b o ak).2.trans aq⟩
 base:=jH h.base he.below.size
 jE:=h.ys he
theorem aE0(w:World)(a:Addr)(u:Value){k:Nat}(h:k≠a.block):(w.setCell a u).heap[k]? =w.heap[k]? :=Below.heap_setCell w a u k h
theorem aEZ(w:World)(b o:Nat)(u:Value){c:Array Value}{T:TypeId}{f:Nat×Nat}(h:w.heap[b]? =some (.cells c T f)):
 (w.setCell ⟨b,o,none⟩ u).heap[b]? =some (.cells (c.setIfInBounds o u) T f):=by
 show(w.heap.modify b _)[b]? =_;rw[Array.getElem?_modify,if_pos rfl,h];rfl
theorem ef.set{w:World}{Γ:Env}{xs:List V}{cs:Array Value}(h:ef w Γ xs cs){o:Nat}{x:V}{v:Value}(ab:bp w Γ x v):ef w Γ (xs.set o x) (cs.setIfInBounds o v):=by
 refine⟨by simp[h.1],fun j y aD=>?_⟩;by_cases ap:o=j
 . subst ap
   have bw:o<xs.length:=by
    have:=(bn.1 aD).1;simpa using this
   rw[eC bw] at aD;simp only[aV] at aD;subst aD;have:o<cs.size:=by rw[h.1];exact bw
   simpa[ih,this] using ab
 . rw[dx ap] at aD
   have:=h.2 j y aD;simpa[ih,Array.getElem?_setIfInBounds_ne ap] using this
theorem Good.abD{w:World}{Γ:Env}{M:Mem}(h:Good w Γ M){id o:Nat}{l:Loc}(ag:Γ.cW[id]? =some l){cells:List V}(bb:M[id]? =some (.box cells)){x:V}(ab:cells[o]? =some x):
 ∃v,w.cell? ⟨l.b,o,none⟩=some v/\bp w Γ x v/\w.frozen? ⟨l.b,o,none⟩=false:=by
 obtain⟨U,aq,af,c,T,ay,be⟩:=h.eG id l _ ag bb;have az:o<c.size:=by rw[be.1];exact(bn.1 ab).1
 refine⟨c.getD o Go.undef,by rw[km ay];exact jK az,be.2 o x ab,by simp[World.frozen?,ay]⟩
theorem Good.aIB{w:World}{Γ:Env}{M:Mem}(h:Good w Γ M){id:Nat}{B:a2}(bb:M[id]? =some B):∃l,Γ.cW[id]? =some l:=by
 have:id<Γ.cW.length:=by rw[h.len];exact(bn.1 bb).1
 exact⟨Γ.cW[id],by simp[this]⟩
end Go.aQ
namespace Go.aQ
inductive aU where
 |tmp (t:Nat)
 |const (v:V)
 deriving Inhabited
inductive fx where
 |bool|int|str
 deriving DecidableEq
inductive fl where
 |bool|int|str
 |cells (cu:List fx)
 deriving DecidableEq
inductive iK where
 |none|bool|ptr|slice|map|fn
 |cells (cu:List fx)
inductive dK where
 |nJ (x:aU)
 |pr (sz:Nat)
 |pick (c a b:aU)
 |alloc (zero:List V)
 |box (n:Nat) (x:aU)
 |build (zero:List V) (d3:List (Nat×Nat×aU))
 |buildSlice (zero:List V) (sz len:Nat) (d3:List (Nat×Nat×aU))
 |qS (zero:List V) (len:Nat) (d3:List (Nat×Nat×aU))
 |load (n:Nat) (bX:Bool) (a:aU)
 |store (n:Nat) (a x:aU)
 |nilCheck (x:aU)
 |bin (op:BinOp) (k:iK) (x y:aU)
 |un (op:UnOp) (x:aU)
 |conv (k:IntKind) (x:aU)
 |td (x:aU)
 |qT (x:aU)
 |my (f:Nat) (da:List aU)
 |makeSlice (zero:List V) (sz bytes:Nat) (l c:aU)
 |vN (zero:V) (bytes:Nat) (l c:aU)
 |slice (sz:Nat) (x:aU) (lo hi mx:Option aU)
 |ur (x:aU) (lo hi:Option aU)
 |fieldAddr (off:Nat) (x:aU)
 |field (off n:Nat) (bX:Bool) (x:aU)
 |f_ (len sz:Nat) (x i:aU)
 |mr (sz:Nat) (x i:aU)
 |pn (x i:aU)
 |tV (len sz:Nat) (bX:Bool) (x i:aU)
 |sy (x:aU)
 |nE (x:aU)
 |tZ (n:Nat)
 |append (imm:Bool) (sz bytes:Nat) (s x:aU)
 |nI (mx:Bool) (x y:aU)
 |extract (x:aU) (i:Nat)
 |makeMap (r:Option aU)
 |lookup (c:fl) (zero:List V) (bX ok:Bool) (m k:aU)
 |mapUpdate (c:fl) (m k x:aU)
 |mapEntry (c:fl) (zero:V) (m k:aU)
 |entryStore (m st x:aU)
 |copy (sz:Nat) (d x:aU)
 |uq (sz:Nat) (x h m:aU)
 |ua (x:aU)
 |ry (x:aU)
 |call (f:Nat) (args:List aU)
 |hd (f:aU) (args:List aU)
 |oq (neg:Bool) (x y:aU)
 |uh (x:aU)
 |rz (x:aU)
 |tf (x:aU)
 |t_ (x:aU)
 deriving Inhabited
structure bt where
 dst:Option Nat
 op:dK
 bx:Bool
 guard:Option (Nat×Bool)
 deriving Inhabited
inductive bc where
 |skip
 |region (aF:List bt) (live:List Nat)
 |mixed (aF:List bt) (dN:List Bool) (live:List Nat)
 |float (aF:List bt) (bJ:List (Option (List Nat))) (live:List Nat)
 |sd (c:Nat) (z:List V) (aF:List bt) (bJ:List (Option (List Nat))) (live:List Nat)
 |seq (a b:bc)
 |cond (c:aU) (a b:bc)
 |block (id:Nat) (a:bc)
 |loop (live:List Nat) (a:bc)
 |scope (l:Nat) (live:List Nat) (a dD:bc)
 |exit (id:Nat)
 |label
 |goto (l:Nat)
 |ret
 deriving Inhabited
inductive mJ where
 |tmp (t:Nat)
 |cell (t n:Nat) (bX:Bool)
structure bu where
 ntmps:Nat
 results:List mJ
 body:bc
abbrev aH:=List (Nat×V)
def aY:aH->Nat->V
 |[],_=>.undef
 |(t,v)::s,u=>bif t==u then v else aY s u
def eK(s:aH)(u:Nat)(x:V):aH:=(u,x)::s
def bA(s:aH):Option Nat->V->aH
 |some d,v=>eK s d v
 |none,_=>s
def gW(s:aH):List Nat->aH
 |[]=>[]
 |t::d5=>(t,aY s t)::gW s d5
def dt(s:aH):List Nat->List V
 |[]=>[]
 |t::d5=>aY s t::dt s d5
def k_:List Nat->List V->aH
 |t::d5,v::vs=>(t,v)::k_ d5 vs
 |_,_=>[]
def rK:List V->Nat->aH
 |[],_=>[]
 |v::vs,i=>(i,v)::rK vs (i+1)
def aN(s:aH):aU->V
 |.tmp t=>aY s t
 |.const v=>v
def eH(s:aH):Option aU->Option V
 |some x=>some (aN s x)
 |none=>none
def e9(s:aH):List aU->List V
 |[]=>[]
 |x::xs=>aN s x::e9 s xs
def j8(s:aH):List (Nat×Nat×aU)->List (Nat×Nat×V)
 |[]=>[]
 |(a,b,x)::xs=>(a,b,aN s x)::j8 s xs
def V.cells?:V->Option (List V)
 |.agg cs=>some cs
 |.undef=>none
 |.tuple _=>none
 |v=>some [v]
def gU:List V->Nat->List V->List V
 |cells,_,[]=>cells
 |cells,off,x::xs=>gU (cells.set off x) (off+1) xs
def nk:List V->Bool
 |[]=>true
 |x::xs=>x.iA&&nk xs
def hy:List V->Bool
 |[]=>true
 |x::xs=>x.kd&&hy xs
def oX:List V->List (Nat×Nat×V)->Option (List V)
 |cells,[]=>some cells
 |cells,(off,size,v)::dD=>
  match v.cells? with
  |some cs=>bif cs.length==size&&decide (off+size<=cells.length) then oX (gU cells off cs) dD else none
  |none=>none
def r9(sz:Nat):Nat->List V->List (List V)
 |0,_=>[]
 |n+1,cells=>cells.take sz::r9 sz n (cells.drop sz)
def iC(n:Nat)(bX:Bool)(cells:List V)(off:Nat):Option V:=
 match bX with
 |true=>bif decide (off+n<=cells.length) then some (.agg ((cells.drop off).take n)) else none
 |false=>cells[off]?
mutual
def V.under(n:Nat):V->Bool
 |.ptr id _=>decide (id<n)
 |.fo id _ _ _=>decide (id<n)
 |.aX id _ _ _=>decide (id<n)
 |.map id=>decide (id<n)
 |.fn _ da=>cS n da
 |.agg cells=>cS n cells
 |.tuple vs=>cS n vs
 |_=>true
def cS(n:Nat):List V->Bool
 |[]=>true
 |x::xs=>V.under n x&&cS n xs
end
def nb(n:Nat):List (V×V)->Bool
 |[]=>true
 |(_,v)::es=>v.under n&&nb n es
def a2.under(n:Nat):a2->Bool
 |.box cells=>cS n cells
 |.vec cells _=>cS n cells
 |.map es=>nb n es
 |.iter mid _ _=>decide (mid<n)
 |_=>true
def cL(n:Nat):Mem->Bool
 |[]=>true
 |B::M=>B.under n&&cL n M
def qP(op:BinOp)(k:IntKind)(x y:Int):Option V:=
 match op with
 |.and=>some (.int k (k.wrap ((iv k.bits x&&&iv k.bits y).toNat:Int)))
 |.or=>some (.int k (k.wrap ((iv k.bits x|||iv k.bits y).toNat:Int)))
 |.xor=>some (.int k (k.wrap ((iv k.bits x^^^iv k.bits y).toNat:Int)))
 |.andNot=>some (.int k (k.wrap ((iv k.bits x&&&~~~iv k.bits y).toNat:Int)))
 |_=>none
def kQ(op:BinOp)(k:IntKind)(a b:Int):Option V:=
 match op with
 |.add=>some (.int k (k.wrap (a+b)))
 |.sub=>some (.int k (k.wrap (a -b)))
 |.mul=>some (.int k (k.wrap (a*b)))
 |.quo=>bif decide (b=0) then none else some (.int k (k.wrap (a.tdiv b)))
 |.rem=>bif decide (b=0) then none else some (.int k (a.tmod b))
 |.eql=>some (.bool (decide (a=b)))
 |.neq=>some (.bool (!decide (a=b)))
 |.lss=>some (.bool (decide (a<b)))
 |.leq=>some (.bool (decide (a<=b)))
 |.gtr=>some (.bool (decide (b<a)))
 |.geq=>some (.bool (decide (b<=a)))
 |.shl|.shr=>none
 |.and=>qP .and k a b
 |.or=>qP .or k a b
 |.xor=>qP .xor k a b
 |.andNot=>qP .andNot k a b
def PS(op:BinOp)(a b:List UInt8):Option V:=
 match op with
 |.add=>bif decide (((a.length+b.length:Nat):Int)<=9223372036854775807) then some (.str (a++b)) else none
 |.eql=>some (.bool (decide (a=b)))
 |.neq=>some (.bool (!decide (a=b)))
 |.lss=>some (.bool (Op.bytesLess a b))
 |.leq=>some (.bool (Op.bytesLess a b||decide (a=b)))
 |.gtr=>some (.bool (!(Op.bytesLess a b||decide (a=b))))
 |.geq=>some (.bool (!Op.bytesLess a b))
 |_=>none
def ox(op:BinOp)(k:IntKind)(a b:Int):Option V:=
 bif decide (b<0) then none else
 match op with
 |.shl=>some (.int k (k.wrap (a*2^(min b.toNat k.bits))))
 |.shr=>some (.int k (a.fdiv (2^(min b.toNat k.bits))))
 |_=>none
def hA:fx->V->V->Option Bool
 |.int,.int k a,.int dj b=>bif decide (k=dj) then some (decide (a=b)) else none
 |.bool,.bool a,.bool b=>some (decide (a=b))
 |.str,.str a,.str b=>some (decide (a=b))
 |_,_,_=>none
def gw:List fx->List V->List V->Option Bool
 |[],_,_=>some true
 |c::cs,x::xs,y::bG=>
  match hA c x y,gw cs xs bG with
  |some b,some d=>some (b&&d)
  |_,_=>none
 |_,_,_=>none
def iE:V->Option Bool
 |.slice _ .nil=>some true
 |.slice _ .full=>some false
 |.slice _ .any=>some false
 |.slice (_::_) .cv=>some false
 |_=>none
def aJI:V->Bool
 |.gC _|.cN _|.dH _ _|.ptr _ _|.fo _ _ _ _|.fn _ _=>true
 |_=>false
def lr(x y:V):iK->Option Bool
 |.bool=>
  match x,y with
  |.bool a,.bool b=>some (decide (a=b))
  |_,_=>none
 |.cells cu=>
  match x,y with
  |.agg xs,.agg bG=>gw cu xs bG
  |_,_=>none
 |.ptr=>
  match x,y with
  |.dm,.dm=>some true
  |.dm,.gC _|.dm,.cN _|.dm,.ptr _ _|.gC _,.dm|.cN _,.dm|.ptr _ _,.dm=>some false
  |_,_=>none
 |.slice=>
  match x,y with
  |.slice _ .nil,y=>iE y
  |x,.slice _ .nil=>iE x
  |_,_=>none
 |.map=>
  match x,y with
  |.jB,.jB=>some true
  |.jB,.map _|.map _,.jB=>some false
  |_,_=>none
 |.fn=>
  match x,y with
  |.gu,.gu=>some true
  |.gu,.dH _ _|.gu,.fn _ _|.dH _ _,.gu|.fn _ _,.gu=>some false
  |_,_=>none
 |.none=>none
def dB(op:BinOp)(kn:iK)(x y:V):Option V:=
 match x,y with
 |.int k a,.int dj b=>
  match op with
  |.shl=>ox .shl k a b
  |.shr=>ox .shr k a b
  |op=>bif decide (k=dj) then kQ op k a b else none
 |.str a,.str b=>PS op a b
 |x,y=>
  match op with
  |.eql=>(lr x y kn).map .bool
  |.neq=>(lr x y kn).map fun b=>.bool !b
  |_=>none
def v9(op:UnOp)(x:V):Option V:=
 match op,x with
 |.neg,.int k n=>some (.int k (k.wrap (0 -n)))
 |.xor,.int k n=>qP .xor k (if k.signed then-1 else k.max) n
 |.not,.bool b=>some (.bool !b)
 |_,_=>none
def sA(mx:Bool)(x y:V):Option V:=
 match x,y with
 |.int k a,.int dj b=>
  bif decide (k=dj) then
   match mx with
   |true=>some (.int k (if b>a then b else a))
   |false=>some (.int k (if b<a then b else a))
  else none
 |_,_=>none
def kz(off:Nat):V->Option V
 |.gC cells=>bif decide (off<=cells.length) then some (.gC (cells.drop off)) else none
 |.cN cells=>bif decide (off<=cells.length) then some (.gC (cells.drop off)) else none
 |.ptr id o=>some (.ptr id (o+off))
 |.fo id v row o=>some (.fo id v row (o+off))
 |_=>none
def En(n:Nat)(bX:Bool)(off:Nat)(cells:List V)(row:Nat):Option V:=
 match n,bX,off with
 |1,false,0=>cells[row]?
 |_,_,_=>none
def JY(off:Nat)(xs:List V)(cells:List V)(row:Nat):Option (List V):=
 match off,xs with
 |0,[x]=>bif decide (row<cells.length) then some (cells.set row x) else none
 |_,_=>none
def hn(n:Nat)(bX:Bool)(a:V)(M:Mem):Option V:=
 match a with
 |.gC cells=>iC n bX cells 0
 |.cN cells=>iC n bX cells 0
 |.ptr id off=>
  match M[id]? with
  |some (.box cells)=>iC n bX cells off
  |_=>none
 |.fo id ver row off=>
  match M[id]? with
  |some (.arr _ rows v _)=>
   bif v==ver then
    match rows[row]? with
    |some r=>iC n bX r off
    |none=>none
   else none
  |some (.vec cells v)=>bif v==ver then En n bX off cells row else none
  |_=>none
 |_=>none
def JG(n:Nat)(a x:V)(M:Mem):Option Mem:=
 match x.cells? with
 |some xs=>
  bif xs.length==n&&nk xs then
   match a with
   |.ptr id off=>
    match M[id]? with
    |some (.box cells)=>bif decide (off+n<=cells.length) then some (M.set id (.box (gU cells off xs))) else none
    |_=>none
   |.fo id ver row off=>
    match M[id]? with
    |some (.arr sz rows v fz)=>
     bif v==ver&&decide (fz<=row)&&hy xs then
      match rows[row]? with
      |some r=>bif decide (off+n<=r.length) then some (M.set id (.arr sz (rows.set row (gU r off xs)) v fz)) else none
      |none=>none
     else none
    |some (.vec cells v)=>
     bif v==ver then
      match JY off xs cells row with
      |some cs=>some (M.set id (.vec cs v))
      |none=>none
     else none
    |_=>none
   |_=>none
  else none
 |none=>none
def fq(n:Nat):List (List V)->Bool
 |[]=>true
 |r::_=>r.length==n
def eJ(sz:Nat)(M:Mem):V->Option (List (List V))
 |.slice rows _=>bif fq sz rows then some rows else none
 |.aX id ver start len=>
  match M[id]? with
  |some (.arr z rows v _)=>bif z==sz&&v==ver&&decide (start+len<=rows.length) then some ((rows.drop start).take len) else none
  |_=>none
 |_=>none
def g3(imm:Bool)(sz bytes:Nat)(s:V)(xr:List (List V))(M:Mem):Option (V×Mem):=
 match s with
 |.slice rows c=>
  bif fq sz rows&&(decide (c=.nil)||decide (c=.full))&&decide ((rows.length+xr.length)*(2*bytes)<=2^48) then
   match imm with
   |true=>some (.slice (rows++xr) .cv,M)
   |false=>
    match xr with
    |[]=>some (.slice rows c,M)
    |_=>some (.aX M.length 0 0 (rows.length+xr.length),M++[.arr sz (rows++xr) 0 0])
  else none
 |.aX id ver 0 len=>
  match M[id]? with
  |some (.arr z rows v fz)=>
   bif z==sz&&v==ver&&len==rows.length&&decide ((rows.length+xr.length)*(2*bytes)<=2^48) then
    some (.aX id (ver+1) 0 (len+xr.length),M.set id (.arr sz (rows++xr) (ver+1) fz))
   else bif z==sz&&v==ver&&decide (len<=rows.length)&&decide (fz<=len)&&decide ((len+xr.length)*(2*bytes)<=2^48) then
    some (.aX id (ver+1) 0 (len+xr.length),M.set id (.arr sz (rows.take len++xr) (ver+1) fz))
   else none
  |some (.vec cells v)=>
   match xr with
   |[[x]]=>
    bif sz==1&&v==ver&&len==cells.length&&decide ((cells.length+1)*(2*bytes)<=2^48) then
     some (.aX id (ver+1) 0 (len+1),M.set id (.vec (cells++[x]) (ver+1)))
    else none
   |_=>none
  |_=>none
 |_=>none
def ix(d:Nat):Option V->Option Nat
 |none=>some d
 |some (.int _ i)=>bif decide (0<=i) then some i.toNat else none
 |some _=>none
def nm(c:c3)(h m len:Nat)(mx:Bool):c3:=
 match c with
 |.nil=>.nil
 |.cv=>.cv
 |.any=>bif mx&&(h==m) then .full else .any
 |.full=>bif mx then(bif h==m then .full else .any) else bif h==len then .full else .any
def g7(sz:Nat)(x:V)(lo hi mx:Option V)(M:Mem):Option V:=
 match x with
 |.slice rows c=>
  match ix 0 lo,ix rows.length hi,ix rows.length mx with
  |some l,some h,some m=>
   bif fq sz rows&&decide (l<=h)&&decide (h<=m)&&decide (m<=rows.length) then
    some (.slice ((rows.drop l).take (h -l)) (nm c h m rows.length mx.isSome))
   else none
  |_,_,_=>none
 |.aX id ver start len=>
  match M[id]? with
  |some (.arr z rows v _)=>
   match ix 0 lo,ix len hi,ix len mx with
   |some l,some h,some m=>bif z==sz&&v==ver&&decide (start+len<=rows.length)&&decide (l<=h)&&decide (h<=m)&&decide (m<=len) then some (.aX id ver (start+l) (h -l)) else none
   |_,_,_=>none
  |_=>none
 |_=>none
def Aw(x:V)(lo hi:Option V):Option V:=
 match x with
 |.str s=>
  match ix 0 lo,ix s.length hi with
  |some l,some h=>bif decide (l<=h)&&decide (h<=s.length) then some (.str ((s.drop l).take (h -l))) else none
  |_,_=>none
 |_=>none
def jj(sz:Nat)(x i:V)(M:Mem):Option V:=
 match i with
 |.int _ i=>
  bif decide (0<=i) then
   match x with
   |.slice rows _=>
    match rows[i.toNat]? with
    |some r=>bif r.length==sz then some (.gC r) else none
    |none=>none
   |.aX id ver start len=>
    match M[id]? with
    |some (.arr z rows v _)=>bif z==sz&&v==ver&&decide (i.toNat<len)&&decide (start+len<=rows.length) then some (.fo id ver (start+i.toNat) 0) else none
    |some (.vec cells v)=>bif sz==1&&v==ver&&decide (i.toNat<len)&&decide (start+len<=cells.length) then some (.fo id ver (start+i.toNat) 0) else none
    |_=>none
   |_=>none
  else none
 |_=>none
def pm(len sz:Nat)(x i:V):Option V:=
 match i with
 |.int _ i=>bif decide (0<=i)&&decide (i<(len:Int)) then kz (i.toNat*sz) x else none
 |_=>none
def vG(x i:V):Option V:=
 match x,i with
 |.str s,.int _ i=>
  bif decide (0<=i) then
   match s[i.toNat]? with
   |some b=>some (.int .u8 b.toNat)
   |none=>none
  else none
 |_,_=>none
def z5(len sz:Nat)(bX:Bool)(x i:V):Option V:=
 match x,i with
 |.agg cells,.int _ i=>bif decide (0<=i)&&decide (i<(len:Int)) then iC sz bX cells (i.toNat*sz) else none
 |_,_=>none
def i0(x:V)(M:Mem):Option V:=
 match x with
 |.slice rows _=>some (.int .i64 rows.length)
 |.aX id ver _ len=>
  match M[id]? with
  |some (.arr _ _ v _)=>bif v==ver then some (.int .i64 len) else none
  |some (.vec _ v)=>bif v==ver then some (.int .i64 len) else none
  |_=>none
 |_=>none
def hV:fl->V->V->Option Bool
 |.bool,x,y=>hA .bool x y
 |.int,x,y=>hA .int x y
 |.str,x,y=>hA .str x y
 |.cells cu,.agg xs,.agg bG=>bif xs.length==cu.length&&bG.length==cu.length then gw cu xs bG else none
 |.cells _,_,_=>none
def rr(c:fl)(key:V):List (V×V)->Option V
 |[]=>none
 |(k,v)::es=>bif (hV c key k).getD false then some v else rr c key es
def hH(c:fl)(key:V):List (V×V)->Nat->Option Nat
 |[],_=>none
 |(k,_)::es,n=>bif (hV c key k).getD false then some n else hH c key es (n+1)
def oi(c:fl)(key val:V):List (V×V)->List (V×V)
 |[]=>[(key,val)]
 |(k,v)::es=>bif (hV c key k).getD false then(key,val)::es else(k,v)::oi c key val es
def vJ:fx->V->Bool
 |.int,.int _ _=>true
 |.str,.str _=>true
 |.bool,.bool _=>true
 |_,_=>false
def wy:List fx->List V->Bool
 |[],[]=>true
 |c::cs,x::xs=>vJ c x&&wy cs xs
 |_,_=>false
def kw:fl->V->Bool
 |.int,x=>vJ .int x
 |.str,x=>vJ .str x
 |.bool,x=>vJ .bool x
 |.cells cu,.agg xs=>wy cu xs
 |.cells _,_=>false
def nD(c:fl)(key:V):List (V×V)->Bool
 |[]=>true
 |(k,_)::es=>(hV c key k).isSome&&nD c key es
def m2(c:fl)(M:Mem)(m key:V):Option (Option V):=
 bif kw c key then
  match m with
  |.jB=>some none
  |.map id=>
   match M[id]? with
   |some (.map es)=>bif nD c key es then some (rr c key es) else none
   |_=>none
  |_=>none
 else none
def Fc(bX:Bool)(cells:List V):Option V:=
 match bX,cells with
 |true,cs=>some (.agg cs)
 |false,[x]=>some x
 |false,_=>none
def oh(c:fl)(zero:List V)(bX ok:Bool)(m key:V)(M:Mem):Option V:=
 match m2 c M m key,Fc bX zero with
 |some (some v),some _=>some (match ok with|true=>.tuple [v,.bool true]|false=>v)
 |some none,some z=>some (match ok with|true=>.tuple [z,.bool false]|false=>z)
 |_,_=>none
def Nf(c:fl)(m key x:V)(M:Mem):Option Mem:=
 match m with
 |.map id=>
  match M[id]? with
  |some (.map es)=>bif kw c key&&nD c key es&&x.iA then some (M.set id (.map (oi c key x es))) else none
  |_=>none
 |_=>none
def t6(c:fl)(zero m key:V)(M:Mem):Option (V×Mem):=
 match m with
 |.map id=>
  match M[id]? with
  |some (.map es)=>
   bif kw c key&&nD c key es then
    match hH c key es 0 with
    |some i=>(es[i]?).map fun cx=>(.tuple [cx.2,.int .i64 i],M.set id (.map (es.set i (key,cx.2))))
    |none=>some (.tuple [zero,.int .i64 es.length],M.set id (.map (es++[(key,zero)])))
   else none
  |_=>none
 |_=>none
def wO(m st x:V)(M:Mem):Option (V×Mem):=
 match m,st with
 |.map id,.int _ i=>
  match M[id]? with
  |some (.map es)=>
   bif decide (0<=i)&&x.iA then
    (es[i.toNat]?).map fun cx=>(.undef,M.set id (.map (es.set i.toNat (cx.1,x))))
   else none
  |_=>none
 |_,_=>none
def oo(rows:List (List V)):Nat->List (List V)->List (List V)
 |_,[]=>rows
 |i,r::rs=>oo (rows.set i r) (i+1) rs
def uQ(sz:Nat)(d x:V)(M:Mem):Option (V×Mem):=
 match d,eJ sz M x with
 |.aX id ver start len,some xr=>
  match M[id]? with
  |some (.arr z rows v fz)=>
   bif z==sz&&v==ver&&decide (start+len<=rows.length)&&decide (fz<=start) then
    some (.int .i64 (min len xr.length:Nat),M.set id (.arr z (oo rows start (xr.take len)) v fz))
   else none
  |_=>none
 |_,_=>none
def yj(sz:Nat)(x h m:V)(M:Mem):Option (V×Mem):=
 match x with
 |.aX id ver 0 len=>
  match M[id]?,h,m with
  |some (.arr z rows v fz),.int _ a,.int _ b=>
   bif z==sz&&v==ver&&decide (len<=rows.length)&&decide (0<=a)&&decide (a=b)&&decide (a.toNat<=len)&&decide (0<rows.length) then
    some (.slice (rows.take a.toNat) .full,M.set id (.arr z rows v (max fz a.toNat)))
   else none
  |_,_,_=>none
 |.slice rows c=>(g7 sz (.slice rows c) none (some h) (some m) M).map (·,M)
 |_=>none
def oj(x:V)(M:Mem):Option (V×Mem):=
 match x with
 |.aX id ver 0 len=>
  match M[id]? with
  |some (.arr z rows v fz)=>
   bif v==ver&&decide (len<=rows.length) then
    bif decide (0<len) then some (.slice (rows.take len) .cv,M.set id (.arr z rows v (max fz len))) else some (.slice [] .cv,M)
   else none
  |_=>none
 |v=>some (v,M)
def z8(x:V)(M:Mem):Option (V×Mem):=
 match hn 1 false x M with
 |some v=>oj v M
 |none=>none
def vS(c a b:V):Option V:=
 match c with
 |.bool t=>some (bif t then a else b)
 |_=>none
def m4(x:V):Option V:=bif aJI x then some x else none
def uP(k:IntKind)(x:V):Option V:=
 match x with
 |.int _ n=>some (.int k (k.wrap n))
 |_=>none
def y0(x:V):Option V:=
 match x with
 |.str b=>some (.str b)
 |_=>none
def yW:List (List V)->Option (List UInt8)
 |[]=>some []
 |[.int .u8 n]::rs=>(yW rs).map (UInt8.ofNat n.toNat::·)
 |_=>none
def r6(x:V)(M:Mem):Option V:=
 match eJ 1 M x with
 |some rows=>(yW rows).map .str
 |none=>none
def x6(f:Nat)(da:List V):V:=bif hy da then .dH f da else .fn f da
def wZ(off n:Nat)(bX:Bool)(x:V):Option V:=
 match x with
 |.agg cells=>iC n bX cells off
 |_=>none
def xV(x:V):Option V:=
 match x with
 |.str b=>some (.int .i64 b.length)
 |_=>none
def wX(x:V)(i:Nat):Option V:=
 match x with
 |.tuple vs=>vs[i]?
 |_=>none
def A0(n:Nat)(x:V)(M:Mem):Option (V×Mem):=
 match x.cells? with
 |some cs=>bif cs.length==n then some (.ptr M.length 0,M++[.box cs]) else none
 |none=>none
def wE(zero:List V)(d3:List (Nat×Nat×V)):Option V:=
 match oX zero d3 with
 |some cs=>some (.agg cs)
 |none=>none
def wD(zero:List V)(sz len:Nat)(d3:List (Nat×Nat×V)):Option V:=
 match oX zero d3 with
 |some cs=>bif hy cs then some (.slice (r9 sz len cs) .full) else none
 |none=>none
def wF(zero:List V)(len:Nat)(d3:List (Nat×Nat×V))(M:Mem):Option (V×Mem):=
 match oX zero d3 with
 |some cs=>some (.aX M.length 0 0 len,M++[.vec cs 0])
 |none=>none
def m1(zero:List V)(sz bytes:Nat)(l c:V)(M:Mem):Option (V×Mem):=
 match l,c with
 |.int _ l,.int _ c=>
  bif decide (0<=l)&&decide (l<=c)&&decide (c*bytes<=2^48)&&decide (c<2^62) then some (.aX M.length 0 0 l.toNat,M++[.arr sz (fV l.toNat zero) 0 0]) else none
 |_,_=>none
def Jb(zero:V)(bytes:Nat)(l c:V)(M:Mem):Option (V×Mem):=
 match l with
 |.int _ n=>
  match m1 [zero] 1 bytes l c M with
  |some (v,_)=>some (v,M++[.vec (fV n.toNat zero) 0])
  |none=>none
 |_=>none
def x2(r:Option V)(M:Mem):Option (V×Mem):=
 match r with
 |none=>some (.map M.length,M++[.map []])
 |some (.int _ _)=>some (.map M.length,M++[.map []])
 |some _=>none
def Jj(x:V)(M:Mem):Option V:=
 match x with
 |.aX id ver 0 1=>
  match M[id]? with
  |some (.vec [hZ] v)=>bif v==ver&&hZ.iA then some hZ else none
  |_=>none
 |_=>none
def EW(sz bytes:Nat)(a hZ:V)(M:Mem):Option (V×Mem):=
 match a with
 |.aX id ver 0 len=>
  match M[id]? with
  |some (.vec cells v)=>
   bif sz==1&&v==ver&&len==cells.length&&decide ((cells.length+1)*(2*bytes)<=2^48) then
    some (.aX id (ver+1) 0 (len+1),M.set id (.vec (cells++[hZ]) (ver+1)))
   else none
  |_=>none
 |_=>none
def d0(imm:Bool)(sz bytes:Nat)(a x:V)(M:Mem):Option (V×Mem):=
 match eJ sz M x with
 |some xr=>g3 imm sz bytes a xr M
 |none=>
  match Jj x M with
  |some hZ=>EW sz bytes a hZ M
  |none=>none
def hL(o:dK)(s:aH)(M:Mem):Option V:=
 match o with
 |.nJ x=>some (aN s x)
 |.pick c a b=>vS (aN s c) (aN s a) (aN s b)
 |.build zero d3=>wE zero (j8 s d3)
 |.buildSlice zero sz len d3=>wD zero sz len (j8 s d3)
 |.load n bX a=>hn n bX (aN s a) M
 |.nilCheck x=>m4 (aN s x)
 |.bin op kn x y=>dB op kn (aN s x) (aN s y)
 |.un op x=>v9 op (aN s x)
 |.conv k x=>uP k (aN s x)
 |.td x=>y0 (aN s x)
 |.qT x=>r6 (aN s x) M
 |.my f da=>some (x6 f (e9 s da))
 |.slice sz x lo hi mx=>g7 sz (aN s x) (eH s lo) (eH s hi) (eH s mx) M
 |.ur x lo hi=>Aw (aN s x) (eH s lo) (eH s hi)
 |.fieldAddr off x=>kz off (aN s x)
 |.field off n bX x=>wZ off n bX (aN s x)
 |.f_ len sz x i=>pm len sz (aN s x) (aN s i)
 |.mr sz x i=>jj sz (aN s x) (aN s i) M
 |.pn x i=>vG (aN s x) (aN s i)
 |.tV len sz bX x i=>z5 len sz bX (aN s x) (aN s i)
 |.sy x=>i0 (aN s x) M
 |.nE x=>xV (aN s x)
 |.tZ n=>some (.int .i64 n)
 |.nI mx x y=>sA mx (aN s x) (aN s y)
 |.extract x i=>wX (aN s x) i
 |.lookup c zero bX ok m k=>oh c zero bX ok (aN s m) (aN s k) M
 |_=>none
def Ah(sz:Nat)(M:Mem):Option (V×Mem):=some (.aX M.length 0 0 0,M++[match sz with|0=>.vec [] 0|n+1=>.arr (n+1) [] 0 0])
def ER(zero:List V)(M:Mem):Option (V×Mem):=some (.ptr M.length 0,M++[.box zero])
def JH(n:Nat)(a x:V)(M:Mem):Option (V×Mem):=
 match JG n a x M with
 |some ah=>some (.undef,ah)
 |none=>none
def Ab(c:fl)(m k x:V)(M:Mem):Option (V×Mem):=
 match Nf c m k x M with
 |some ah=>some (.undef,ah)
 |none=>none
def yb(neg:Bool)(x y:V)(M:Mem):Option (V×Mem):=
 match x,y with
 |.ptr i o,.ptr j p=>
  match M[i]?,M[j]? with
  |some (.box _),some (.box _)=>some (.bool ((decide (i=j)&&decide (o=p)) !=neg),M)
  |_,_=>none
 |_,_=>none
def Eb(x:V)(M:Mem):Option (V×Mem):=
 match x with
 |.map id=>
  match M[id]? with
  |some (.map es)=>some (.ptr M.length 0,M++[.iter id es.length []])
  |_=>none
 |_=>none
def y5(x:V)(M:Mem):Option (V×Mem):=
 match x with
 |.ptr id 0=>
  match M[id]? with
  |some (.iter mid n seen)=>
   match M[mid]?,seen.getLast? with
   |some (.map es),some i=>bif ep es.length n then(es[i]?).map (fun cx=>(.tuple [cx.1,cx.2],M)) else none
   |_,_=>none
  |_=>none
 |_=>none
def DR(x:V)(M:Mem):Option (V×Mem):=
 match x with
 |.map id=>
  match M[id]? with
  |some (.map es)=>some (.int .i64 es.length,M)
  |_=>none
 |_=>none
def m3(o:dK)(s:aH)(M:Mem):Option (V×Mem):=
 match o with
 |.pr sz=>Ah sz M
 |.alloc zero=>ER zero M
 |.box n x=>A0 n (aN s x) M
 |.store n a x=>JH n (aN s a) (aN s x) M
 |.makeSlice zero sz bytes l c=>m1 zero sz bytes (aN s l) (aN s c) M
 |.qS zero len d3=>wF zero len (j8 s d3) M
 |.vN zero bytes l c=>Jb zero bytes (aN s l) (aN s c) M
 |.append imm sz bytes a x=>d0 imm sz bytes (aN s a) (aN s x) M
 |.makeMap r=>x2 (eH s r) M
 |.mapUpdate c m k x=>Ab c (aN s m) (aN s k) (aN s x) M
 |.mapEntry c z m k=>t6 c z (aN s m) (aN s k) M
 |.entryStore m st x=>wO (aN s m) (aN s st) (aN s x) M
 |.copy sz d x=>uQ sz (aN s d) (aN s x) M
 |.ua x=>z8 (aN s x) M
 |.ry x=>oj (aN s x) M
 |.uq sz x h m=>yj sz (aN s x) (aN s h) (aN s m) M
 |.oq neg x y=>yb neg (aN s x) (aN s y) M
 |.uh x=>Eb (aN s x) M
 |.tf x=>y5 (aN s x) M
 |.t_ x=>DR (aN s x) M
 |_=>none
def dK.hl:dK->Bool
 |.pr _|.alloc _|.box _ _|.store _ _ _|.makeSlice _ _ _ _ _|.vN _ _ _ _|.qS _ _ _|.append _ _ _ _ _|.makeMap _|.mapUpdate _ _ _ _|.mapEntry _ _ _ _|.entryStore _ _ _|.copy _ _ _|.uq _ _ _ _|.ua _|.ry _|.oq _ _ _|.uh _|.rz _|.tf _|.t_ _=>true
 |_=>false
end Go.aQ
namespace Go.aQ
def u1(P:Program)(f:Nat):Bool:=
 match P.funcs[f]? with
 |some fn=>fn.body.isSome&&fn.name != "runtime.NumGoroutine"
 |none=>false
def cj(P:Program)(f:Nat)(args:List V)(M:Mem)(R:V->Mem->Prop):Prop:=
 u1 P f=true/\∀(w:World)(Γ:Env)(jI:Array Value),Good w Γ M->ef w Γ args jI->
  Calls P f jI w (fun e w'=>∃v bl Γ' ah,e=.returned bl/\R v ah/\bp w' Γ' v bl/\Good w' Γ' ah/\Ext w Γ w' Γ')
theorem cj.mono{P:Program}{f:Nat}{args:List V}{M:Mem}{R lM:V->Mem->Prop}(h:cj P f args M R)(al:∀v ah,R v ah->lM v ah):cj P f args M lM:=
 ⟨h.1,fun w Γ jI aB bk=>(h.2 w Γ jI aB bk).mono fun _ _ ⟨v,bl,Γ',ah,U,af,ay⟩=>⟨v,bl,Γ',ah,U,al v ah af,ay⟩⟩
def bQ(P:Program)(f:Nat)(args:List V)(R:V->Prop):Prop:=
 cj P f args [] (fun v ah=>R v/\ah=[]/\v.under 0=true)
theorem bQ.mono{P:Program}{f:Nat}{args:List V}{R lM:V->Prop}(h:bQ P f args R)(al:∀v,R v->lM v):bQ P f args lM:=
 cj.mono h fun _ _ ⟨a,b,c⟩=>⟨al _ a,b,c⟩
def V.I3:V->Bool
 |.bool _|.int _ _|.str _|.dm|.gu|.jB=>true
 |_=>false
def oD(P:Program)(q:Bool)(f:Nat)(args:List V)(M:Mem)(K:V->Mem->Prop):Prop:=
 match q with
 |false=>cj P f args M K
 |true=>∃v,cj P f args M (fun x ah=>x=v/\ah=M)/\K v M
def lL(o:Option V)(K:V->Prop):Prop:=
 match o with
 |some v=>K v
 |none=>False
def s3(o:Option V)(K:Bool->Prop):Prop:=
 match o with
 |some (.bool b)=>K b
 |_=>False
def s4(o:Option (V×Mem))(K:V->Mem->Prop):Prop:=
 match o with
 |some (v,M)=>K v M
 |none=>False
def jZ(b:Bool)(A B:Prop):Prop:=
 match b with
 |true=>A
 |false=>B
def mE(P:Program)(q:Bool)(f:V)(args:List V)(M:Mem)(K:V->Mem->Prop):Prop:=
 match f with
 |.dH f da=>oD P q f (args++da) M K
 |.fn f da=>oD P q f (args++da) M K
 |_=>False
def kC(s:aH)(dst:Option Nat)(bx:Bool)(v:V)(K:aH->Prop):Prop:=
 match bx with
 |true=>s3 (some v) (fun b=>K (bA s dst (.bool b)))
 |false=>K (bA s dst v)
def rS(x:V)(M:Mem)(K:V->Mem->Prop):Prop:=
 match x with
 |.ptr id 0=>
  match M[id]? with
  |some (.iter mid n seen)=>
   match M[mid]? with
   |some (.map es)=>es.length=n/\((∀i,i<n->i∈seen)->K (.tuple [.bool false]) M)/\
     ∀i cx,es[i]? =some cx->i∉seen->K (.tuple [.bool true,cx.1,cx.2]) (M.set id (.iter mid n (seen++[i])))
   |_=>False
  |_=>False
 |_=>False
def w5(x y:V):Bool:=
 match x,y with
 |.cN _,.cN _=>true
 |_,_=>false
def sV(neg:Bool)(x y:V)(M:Mem)(K:V->Mem->Prop):Prop:=
 match w5 x y with
 |true=>K (.bool true) M/\K (.bool false) M
 |false=>s4 (yb neg x y M) K
def wpOp(P:Program)(q:Bool)(o:dK)(dst:Option Nat)(bx:Bool)(s:aH)(M:Mem)(K:aH->Mem->Prop):Prop:=
 match o with
 |.call f args=>oD P q f (e9 s args) M (fun v ah=>kC s dst bx v (fun aM=>K aM ah))
 |.hd ju args=>mE P q (aN s ju) (e9 s args) M (fun v ah=>kC s dst bx v (fun aM=>K aM ah))
 |.rz x=>rS (aN s x) M (fun v ah=>K (bA s dst v) ah)
 |.oq neg x y=>sV neg (aN s x) (aN s y) M (fun v ah=>K (bA s dst v) ah)
 |op=>
  match op.hl with
  |true=>s4 (m3 op s M) (fun v ah=>K (bA s dst v) ah)
  |false=>
   match bx with
   |true=>s3 (hL op s M) (fun b=>K (bA s dst (.bool b)) M)
   |false=>lL (hL op s M) (fun v=>K (bA s dst v) M)
def wpOps(P:Program)(q:Bool):List bt->aH->Mem->(aH->Mem->Prop)->Prop
 |[],s,M,k=>k s M
 |⟨dst,op,bx,none⟩::os,s,M,k=>wpOp P q op dst bx s M (fun aM ah=>wpOps P q os aM ah k)
 |⟨dst,op,bx,some (g,gN)⟩::os,s,M,k=>
  match aY s g with
  |.bool b=>
   match gN with
   |true=>jZ b (wpOp P q op dst bx (eK s g (.bool true)) M (fun aM ah=>wpOps P q os aM ah k)) (wpOps P q os (bA (eK s g (.bool false)) dst (.tuple [])) M k)
   |false=>jZ b (wpOps P q os (bA (eK s g (.bool true)) dst (.tuple [])) M k) (wpOp P q op dst bx (eK s g (.bool false)) M (fun aM ah=>wpOps P q os aM ah k))
  |.tuple []=>wpOps P q os (bA s dst (.tuple [])) M k
  |_=>False
theorem aNz{neg:Bool}{x y:V}{M:Mem}{K AN:V->Mem->Prop}(h:sV neg x y M K)(ao:∀v M,K v M->AN v M):sV neg x y M AN:=by
 unfold sV at h⊢;cases aC:w5 x y with
 |true=>rw[aC] at h;exact⟨ao _ _ h.1,ao _ _ h.2⟩
 |false=>
  rw[aC] at h;simp only at h⊢;cases az:yb neg x y M with
  |none=>rw[az] at h;exact h.elim
  |some p=>
   obtain⟨v,ah⟩:=p;rw[az] at h;exact ao _ _ h
theorem aNx{x:V}{M:Mem}{K AN:V->Mem->Prop}(h:rS x M K)(ao:∀v M,K v M->AN v M):rS x M AN:=by
 cases x with
 |ptr id off=>
  cases off with
  |succ _=>exact h.elim
  |zero=>
  simp only[rS] at h⊢;cases bb:M[id]? with
  |none=>simp only[bb] at h
  |some B=>
   cases B with
   |iter mid n seen=>
    simp only[bb] at h⊢;cases hm:M[mid]? with
    |none=>simp only[hm] at h
    |some mK=>
     cases mK with
     |map es=>
      simp only[hm] at h⊢;exact⟨h.1,fun a=>ao _ _ (h.2.1 a),fun i cx a b=>ao _ _ (h.2.2 i cx a b)⟩
     |_=>simp only[hm] at h
   |_=>simp only[bb] at h
 |_=>exact h.elim
def hr(P:Program)(q:Bool)(o:bt)(s:aH)(M:Mem)(K:aH->Mem->Prop):Prop:=
 match o with
 |⟨dst,op,bx,none⟩=>wpOp P q op dst bx s M K
 |⟨dst,op,bx,some (g,gN)⟩=>
  match aY s g with
  |.bool b=>
   match gN with
   |true=>jZ b (wpOp P q op dst bx (eK s g (.bool true)) M K) (K (bA (eK s g (.bool false)) dst (.tuple [])) M)
   |false=>jZ b (K (bA (eK s g (.bool true)) dst (.tuple [])) M) (wpOp P q op dst bx (eK s g (.bool false)) M K)
  |.tuple []=>K (bA s dst (.tuple [])) M
  |_=>False
def uw(P:Program):List bt->List Bool->aH->Mem->(aH->Mem->Prop)->Prop
 |o::os,q::dN,s,M,k=>hr P q o s M (fun aM ah=>uw P os dN aM ah k)
 |_,_,s,M,k=>k s M
def nG:List (Nat×(Mem->Prop))->Nat->Mem->Prop
 |[],_,_=>False
 |(i,p)::H,j,M=>
  match ep i j with
  |true=>p M
  |false=>nG H j M
def kE(H:List (Nat×(Mem->Prop))):List Nat->Mem->Prop
 |[],_=>True
 |j::z6,M=>nG H j M/\kE H z6 M
def pM(s:aH):Option Nat->V
 |some d=>aY s d
 |none=>.undef
def OJ(P:Program)(f:Nat)(args:List V)(bx:Bool)(v:V)(cz:Mem):Prop:=cj P f args cz (fun x ah=>x=v/\ah=cz)/\(bx=true->∃b,v=.bool b)
def gk(P:Program)(o:bt)(s:aH)(v:V)(cz:Mem):Prop:=
 match o.op with
 |.call f args=>OJ P f (e9 s args) o.bx v cz
 |op=>hL op s cz=some v
def l8(P:Program):List bt->List (Option (List Nat))->Nat->List (Nat×(Mem->Prop))->aH->Mem->(aH->Mem->Prop)->Prop
 |o::os,none::bO,n,H,s,M,k=>hr P true o s M (fun aM ah=>l8 P os bO (n+1) ((n,gk P o s (pM aM o.dst))::H) aM ah k)
 |o::os,some l::bO,n,H,s,M,k=>hr P false o s M (fun aM ah=>kE H l ah/\l8 P os bO (n+1) H aM ah k)
 |_,_,_,_,s,M,k=>k s M
def J3(P:Program)(f:Nat)(args:List V)(M:Mem)(n:Nat)(B:a2)(k:V->Mem->Prop):Prop:=
 ∃v ah,ah[n]? =some .dead/\cj P f args M (fun x N=>x=v/\N=ah)/\cj P f args (M.set n B) (fun x N=>x=v/\N=ah.set n B)/\k v ah
def nT(P:Program)(z:List V)(n c:Nat):List bt->List (Option (List Nat))->Nat->List (Nat×(Mem->Prop))->aH->Mem->(aH->Mem->Prop)->Prop
 |o::os,none::bO,q,H,s,M,k=>hr P true o s M (fun aM ah=>nT P z n c os bO (q+1) ((q,gk P o s (pM aM o.dst))::H) aM ah k)
 |o::os,some l::bO,q,H,s,M,k=>
  match ep q c with
  |true=>kE H l (M.set n (.box z))/\l8 P os bO (q+1) H (bA s o.dst (.ptr n 0)) (M.set n (.box z)) k
  |false=>
   match o.op with
   |.call f args=>J3 P f (e9 s args) M n (.box z) (fun v ah=>kC s o.dst o.bx v (fun aM=>kE H l ah/\nT P z n c os bO (q+1) H aM ah k))
   |_=>False
 |_,_,_,_,_,_,_=>False
def hK(n:Nat)(vs:List V)(M:Mem):Bool:=decide (n<=M.length)&&cS n vs&&cL n (M.take n)
def yh(next:(Exit->aH->Mem->Prop)->aH->Mem->Prop)(Q:Exit->aH->Mem->Prop):Exit->aH->Mem->Prop
 |.normal,s,M=>next Q s M
 |e,s,M=>Q e s M
def pI(id:Nat)(Q:Exit->aH->Mem->Prop):Exit->aH->Mem->Prop
 |.exit nA,s,M=>bif nA==id then Q .normal s M else Q (.exit nA) s M
 |e,s,M=>Q e s M
def nM(dy:Nat->List V->Mem->Prop)(n len:Nat)(live:List Nat)(Q:Exit->aH->Mem->Prop):Exit->aH->Mem->Prop
 |.normal,s,M=>(∃m,m<n/\dy m (dt s live) M)∨(hK len (dt s live) M=true/\∃m,m<n/\dy m (dt s live) (M.take len))
 |e,s,M=>Q e s M
def xU(b3:List V->Mem->Prop)(l:Nat)(live:List Nat)(Q:Exit->aH->Mem->Prop):Exit->aH->Mem->Prop
 |.goto l',s,M=>l'=l/\b3 (dt s live) M
 |e,s,M=>Q e s M
def dv(P:Program):bc->(Exit->aH->Mem->Prop)->aH->Mem->Prop
 |.skip,Q,s,M=>Q .normal s M
 |.label,Q,s,M=>Q .normal s M
 |.region aF live,Q,s,M=>wpOps P false aF s M (fun aM ah=>Q .normal (gW aM live) ah)
 |.mixed aF dN live,Q,s,M=>uw P aF dN s M (fun aM ah=>Q .normal (gW aM live) ah)
 |.float aF bJ live,Q,s,M=>l8 P aF bJ 0 [] s M (fun aM ah=>Q .normal (gW aM live) ah)
 |.sd c z aF bJ live,Q,s,M=>nT P z M.length c aF bJ 0 [] s (M++[.dead]) (fun aM ah=>Q .normal (gW aM live) ah)
 |.seq a b,Q,s,M=>dv P a (yh (dv P b) Q) s M
 |.cond c a b,Q,s,M=>
  match aN s c with
  |.bool t=>jZ t (dv P a Q s M) (dv P b Q s M)
  |_=>False
 |.block id a,Q,s,M=>dv P a (pI id Q) s M
 |.loop live a,Q,s,M=>
  ∃(dy:Nat->List V->Mem->Prop)(n:Nat),dy n (dt s live) M/\
   ∀n vs cz,dy n vs cz->dv P a (nM dy n M.length live Q) (k_ live vs) cz
 |.scope l live a dD,Q,s,M=>
  ∃(b3:Nat->List V->Mem->Prop),
   dv P a (xU (fun vs M=>∃n,b3 n vs M) l live Q) s M/\
   ∀n vs cz,b3 n vs cz->dv P dD (xU (fun vs M=>∃m,m<n/\b3 m vs M) l live Q) (k_ live vs) cz
 |.exit id,Q,s,M=>Q (.exit id) s M
 |.goto l,Q,s,M=>Q (.goto l) s M
 |.ret,Q,s,M=>Q .ret s M
def Ee(s:aH)(M:Mem):mJ->Option V
 |.tmp t=>some (aY s t)
 |.cell t n bX=>hn n bX (aY s t) M
def ye(s:aH)(M:Mem):List mJ->Option (List V)
 |[]=>some []
 |r::rs=>
  match Ee s M r,ye s M rs with
  |some v,some vs=>some (v::vs)
  |_,_=>none
def pu(s:aH)(M:Mem)(rs:List mJ):Option V:=
 match ye s M rs with
 |some [v]=>some v
 |some vs=>some (.tuple vs)
 |none=>none
def pN(rs:List mJ)(R:Option V->Mem->Prop):Exit->aH->Mem->Prop
 |.normal,s,M=>R (pu s M rs) M
 |.ret,s,M=>R (pu s M rs) M
 |_,_,_=>False
def rq(R:V->Mem->Prop)(v:Option V)(M:Mem):Prop:=
 match v with
 |some v=>R v M
 |none=>False
def hq(P:Program)(fn:bu)(args:List V)(M:Mem)(R:V->Mem->Prop):Prop:=
 dv P fn.body (pN fn.results (rq R)) (rK args 0) M
def ke(f:V->Option V):List V->Option (List V)
 |[]=>some []
 |x::xs=>
  match f x,ke f xs with
  |some y,some bG=>some (y::bG)
  |_,_=>none
def fu(M:Mem)(base:Nat):Nat->V->Option V
 |0,v=>bif v.under base then some v else none
 |n+1,v=>
  match v with
  |.ptr id off=>
   bif decide (id<base) then some (.ptr id off) else
   match M[id]? with
   |some (.box cells)=>
    match ke (fu M base n) (cells.drop off) with
    |some cs=>bif hy cs&&decide (off<=cells.length) then some (match off,cs with|0,_::_=>.cN cs|_,_=>.gC cs) else none
    |none=>none
   |_=>none
  |.aX id ver start len=>
   bif decide (id<base) then some (.aX id ver start len) else
   match M[id]? with
   |some (.arr _ rows v _)=>bif v==ver&&decide (start+len<=rows.length) then some (.slice ((rows.drop start).take len) .cv) else none
   |some (.vec cells v)=>
    bif v==ver&&decide (start+len<=cells.length) then
     match ke (fu M base n) ((cells.drop start).take len) with
     |some cs=>bif hy cs then some (.slice (cs.map fun x=>[x]) .cv) else none
     |none=>none
    else none
   |_=>none
  |.fn f da=>
   match ke (fu M base n) da with
   |some cs=>some (bif hy cs then .dH f cs else .fn f cs)
   |none=>none
  |.agg cells=>(ke (fu M base n) cells).map .agg
  |.tuple vs=>(ke (fu M base n) vs).map .tuple
  |v=>bif v.under base then some v else none
def Jv(base:Nat)(R:V->Mem->Prop)(v:Option V)(ah:Mem):Prop:=
 match v with
 |some v=>lL (fu ah base 20 v) fun dV=>(dV.under base&&decide (base<=ah.length)&&cL base (ah.take base))=true/\R dV (ah.take base)
 |none=>False
def Xo(P:Program)(fn:bu)(args:List V)(M:Mem)(R:V->Mem->Prop):Prop:=
 dv P fn.body (pN fn.results (Jv M.length R)) (rK args 0) M
end Go.aQ
namespace Go.aQ
def E9:Value->Option V
 |.bool b=>some (.bool b)
 |.int k n=>some (.int k n)
 |.string s=>some (.str s.data.toList)
 |.pointer none=>some .dm
 |.slice none 0 0=>some (.slice [] .nil)
 |.map none=>some .jB
 |.nilFunc=>some .gu
 |_=>none
def wJ:List Value->Option (List V)
 |[]=>some []
 |v::vs=>
  match E9 v,wJ vs with
  |some x,some xs=>some (x::xs)
  |_,_=>none
def KS:Value->Option V
 |.agg cs=>(wJ cs.toList).map .agg
 |v=>E9 v
def b2:Operand->Option aU
 |.tmp t=>some (.tmp t)
 |.const v=>(KS v).map .const
 |.func f=>some (.const (.dH f []))
 |.global _=>none
def sD:List Operand->Option (List aU)
 |[]=>some []
 |x::xs=>
  match b2 x,sD xs with
  |some y,some bG=>some (y::bG)
  |_,_=>none
def hJ:Option Operand->Option (Option aU)
 |none=>some none
 |some x=>(b2 x).map some
def j4(P:Program)(t:TypeId):Option Bool:=
 match P.underlying t with
 |some (.struct _)=>some true
 |some (.array _ _)=>some true
 |some _=>some false
 |none=>none
def e6(P:Program)(t:TypeId):Option Nat:=
 match P.info? t with
 |some i=>some i.size
 |none=>none
def kJ(P:Program)(t:TypeId):Option (List V):=
 match P.info? t with
 |some i=>
  match i.zero with
  |some v=>wJ v.cells.toList
  |none=>none
 |none=>none
def z9(P:Program)(t:TypeId):Bool:=
 match P.info? t with
 |some i=>
  match i.zero with
  |some (.agg _)=>false
  |some _=>true
  |none=>false
 |none=>false
def l4(P:Program)(t:TypeId):Option fx:=
 match P.underlying t with
 |some .bool=>some .bool
 |some (.int _)=>some .int
 |some .string=>some .str
 |_=>none
def sO(P:Program):Nat->List Field->Option (List fx)
 |_,[]=>some []
 |n,f::bO=>
  match l4 P f.type,j4 P f.type,sO P (n+1) bO with
  |some k,some false,some cu=>if f.name != "_"&&f.offset==n then some (k::cu) else none
  |_,_,_=>none
def vL(P:Program):Nat->List Field->Option (List fx)
 |_,[]=>some []
 |n,f::bO=>
  if f.name != "_"&&f.offset==n then
   match l4 P f.type with
   |some k=>
    match j4 P f.type,vL P (n+1) bO with
    |some false,some cu=>some (k::cu)
    |_,_=>none
   |none=>
    match P.underlying f.type,e6 P f.type,j4 P f.type with
    |some (.struct gs),some m,some true=>
     match sO P 0 gs.toList,vL P (n+m) bO with
     |some cu,some og=>if cu.length==m&&decide (0<m)&&!P.stoodInHeld f.type then some (cu++og) else none
     |_,_=>none
    |_,_,_=>none
  else none
def nC(P:Program)(t:TypeId):Option fl:=
 match l4 P t with
 |some .bool=>some .bool
 |some .int=>some .int
 |some .str=>some .str
 |none=>
  match P.underlying t with
  |some (.struct bO)=>
   match vL P 0 bO.toList with
   |some cu=>if !P.stoodInHeld t then some (.cells cu) else none
   |none=>none
  |some (.array n e)=>
   match l4 P e,j4 P e with
   |some k,some false=>if e6 P e==some 1 then some (.cells (fV n k)) else none
   |_,_=>none
  |_=>none
def y6(P:Program)(t:TypeId):iK:=
 match P.underlying t with
 |some .bool=>.bool
 |some (.pointer _)=>.ptr
 |some (.slice _)=>.slice
 |some (.map _ _)=>.map
 |some (.func _ _ _)=>.fn
 |some (.struct bO)=>
  match sO P 0 bO.toList with
  |some cu=>if !P.stoodInHeld t&&!P.eqGuardType P.depth t then .cells cu else .none
  |none=>.none
 |some (.array n e)=>
  match l4 P e,j4 P e with
  |some k,some false=>if e6 P e==some 1&&!P.eqGuardType P.depth t then .cells (fV n k) else .none
  |_,_=>.none
 |_=>.none
def Ap(P:Program)(t:TypeId):Bool:=
 match P.underlying t with
 |some (.pointer e)=>match e6 P e with|some n=>decide (0<n)|none=>false
 |_=>false
def Al(P:Program)(bO:Array Field):List (Nat×Operand)->Option (List (Nat×Nat×aU))
 |[]=>some []
 |(i,x)::dD=>
  match bO[i]?,b2 x,Al P bO dD with
  |some f,some y,some r=>
   match e6 P f.type with
   |some n=>some ((f.offset,n,y)::r)
   |none=>none
  |_,_,_=>none
def sH(n:Nat):List (Nat×Operand)->Option (List (Nat×Nat×aU))
 |[]=>some []
 |(i,x)::dD=>
  match b2 x,sH n dD with
  |some y,some r=>some ((i*n,n,y)::r)
  |_,_=>none
def rE:Nat->List V->List V
 |0,_=>[]
 |n+1,z=>z++rE n z
def qO{α β Ex:Type}(x:Option α)(y:Option β)(f:α->β->Ex):Option Ex:=
 match x,y with
 |some a,some b=>some (f a b)
 |_,_=>none
def MT:Operand->Bool
 |.const (.slice none 0 0)=>true
 |_=>false
def aHJ:Operand->Bool
 |.const _=>true
 |_=>false
def OH(P:Program)(e:TypeId)(n:Nat):Bool:=
 match kJ P e with
 |some z=>z.length==n
 |none=>false
def vX(P:Program)(b:Builtin)(args:List Operand)(iG:List TypeId)(mu:Bool):Option dK:=
 match b,args,iG with
 |.len,[x],[t]=>
  match P.underlying t with
  |some .string=>(b2 x).map .nE
  |some (.slice _)=>(b2 x).map .sy
  |some (.map _ _)=>(b2 x).map .t_
  |some (.array n _)=>some (.tZ n)
  |some (.pointer a)=>
   match P.underlying a with
   |some (.array n _)=>some (.tZ n)
   |_=>none
  |_=>none
 |.append,[s,x],[t,ad]=>
  match P.underlying t,P.underlying ad with
  |some (.slice e),some (.slice _)=>
   match P.info? e,(b2 s),(b2 x) with
   |some i,some aM,some df=>if decide (0<i.bytes)&&OH P e i.size then some (.append (aHJ s !=mu) i.size i.bytes aM df) else none
   |_,_,_=>none
  |_,_=>none
 |.copy,[d,x],[t,ad]=>
  match P.underlying t,P.underlying ad with
  |some (.slice e),some (.slice _)=>
   match e6 P e,b2 d,b2 x with
   |some n,some hB,some df=>if 0<n then some (.copy n hB df) else none
   |_,_,_=>none
  |_,_=>none
 |.max,[x,y],_=>qO (b2 x) (b2 y) (.nI true)
 |.min,[x,y],_=>qO (b2 x) (b2 y) (.nI false)
 |_,_,_=>none
def aA4(P:Program)(t:TypeId):Option Nat:=
 match P.underlying t with
 |some (.slice e)=>e6 P e
 |_=>none
def gK(P:Program)(mu k3:Bool)(na:TypeId):Op->Option dK
 |.move x=>match mu with|false=>(b2 x).map .nJ|true=>(b2 x).map .ry
 |.assign x=>if mu then(if MT x then(if k3 then some (.pr 0) else(aA4 P na).map .pr) else(b2 x).map .ry) else(b2 x).map .nJ
 |.pick c a b=>
  match b2 c,b2 a,b2 b with
  |some c,some a,some b=>some (.pick c a b)
  |_,_,_=>none
 |.alloc e=>(kJ P e).map .alloc
 |.box e x=>qO (e6 P e) (b2 x) .box
 |.build t d3=>
  match P.underlying t,kJ P t with
  |some (.struct bO),some z=>if bO.toList.all (fun f=>(e6 P f.type).isSome) then(Al P bO d3.toList).map (.build z) else none
  |some (.array _ e),some z=>
   match e6 P e with
   |some n=>(sH n d3.toList).map (.build z)
   |none=>none
  |_,_=>none
 |.buildSlice t len d3=>
  match P.underlying t with
  |some (.slice e)=>
   match e6 P e,kJ P e with
   |some n,some z=>
    if z.length==n&&0<n&&len*n<=2^20 then
     match k3 with
     |false=>(sH n d3.toList).map (.buildSlice (rE len z) n len)
     |true=>if n==1 then(sH n d3.toList).map (.qS (rE len z) len) else none
    else none
   |_,_=>none
  |_=>none
 |.load t a=>
  match e6 P t,j4 P t,b2 a with
  |some n,some bX,some a=>
   match mu with
   |false=>some (.load n bX a)
   |true=>if n==1&&!bX then some (.ua a) else none
  |_,_,_=>none
 |.store t a x=>
  match e6 P t,b2 a,b2 x with
  |some n,some a,some x=>some (.store n a x)
  |_,_,_=>none
 |.nilCheck x=>(b2 x).map .nilCheck
 |.binOp op t x y _=>
  match mu&&Ap P t,op with
  |true,.eql=>qO (b2 x) (b2 y) (.oq false)
  |true,.neq=>qO (b2 x) (b2 y) (.oq true)
  |_,_=>qO (b2 x) (b2 y) (.bin op (y6 P t))
 |.unOp op _ x=>(b2 x).map (.un op)
 |.convert src dst x=>
  match P.underlying src,P.underlying dst,b2 x with
  |some (.int _),some (.int k),some x=>some (.conv k x)
  |some .string,some .string,some x=>some (.td x)
  |some (.slice e),some .string,some x=>
   match P.underlying e with
   |some (.int .u8)=>some (.qT x)
   |_=>none
  |_,_,_=>none
 |.makeFunc (.func f) first da=>if first.isEmpty then(sD da.toList).map (.my f) else none
 |.makeMap t r=>
  match P.underlying t with
  |some (.map _ _)=>(hJ r).map .makeMap
  |_=>none
 |.lookup t m k ok=>
  match P.underlying t,b2 m,b2 k with
  |some (.map kt e),some m,some k=>
   match kJ P e,nC P kt with
   |some [z],some c=>bif z9 P e then some (.lookup c [z] false ok m k) else none
   |_,_=>none
  |_,_,_=>none
 |.mapUpdate t m k x=>
  match P.underlying t,b2 m,b2 k,b2 x with
  |some (.map kt _),some m,some k,some x=>(nC P kt).map (fun c=>.mapUpdate c m k x)
  |_,_,_,_=>none
 |.mapEntry t m k=>
  match P.underlying t,b2 m,b2 k with
  |some (.map kt e),some m,some k=>
   match kJ P e,nC P kt with
   |some [z],some c=>bif z9 P e&&z.iA then some (.mapEntry c z m k) else none
   |_,_=>none
  |_,_,_=>none
 |.entryStore t m st x=>
  match b2 m,b2 st,b2 x with
  |some m,some st,some x=>some (.entryStore m st x)
  |_,_,_=>none
 |.makeSlice t l c=>
  match P.underlying t with
  |some (.slice e)=>
   match P.info? e,kJ P e,b2 l,b2 c with
   |some i,some z,some l,some c=>
    if z.length==i.size&&hy z&&0<i.size then
     match k3,z with
     |false,z=>some (.makeSlice z i.size i.bytes l c)
     |true,[z]=>some (.vN z i.bytes l c)
     |true,_=>none
    else none
   |_,_,_,_=>none
  |_=>none
 |.slice t x lo hi mx=>
  match P.underlying t,b2 x,hJ lo,hJ hi,hJ mx with
  |some .string,some x,some lo,some hi,some none=>some (.ur x lo hi)
  |some (.slice e),some x,some lo,some hi',some mx'=>
   match mu,lo,hi',mx' with
   |true,none,some h,some m=>(e6 P e).map (fun n=>.uq n x h m)
   |true,_,_,_=>none
   |false,_,_,_=>if mx.isNone||hi.isSome then(e6 P e).map (fun n=>.slice n x lo hi' mx') else none
  |_,_,_,_,_=>none
 |.range t x=>
  match P.underlying t with
  |some (.map _ _)=>(b2 x).map .uh
  |_=>none
 |.next x false=>(b2 x).map .rz
 |.entry x=>(b2 x).map .tf
 |.fieldAddr t x f=>
  match P.underlying t,b2 x with
  |some (.struct bO),some x=>
   match bO[f]? with
   |some g=>
    match e6 P g.type with
    |some n=>if n=0 then none else some (.fieldAddr g.offset x)
    |none=>none
   |none=>none
  |_,_=>none
 |.field t x f=>
  match P.underlying t,b2 x with
  |some (.struct bO),some x=>
   match bO[f]? with
   |some g=>
    match e6 P g.type,j4 P g.type with
    |some n,some bX=>some (.field g.offset n bX x)
    |_,_=>none
   |none=>none
  |_,_=>none
 |.indexAddr t x i=>
  match P.underlying t,b2 x,b2 i with
  |some (.array n e),some x,some i=>(e6 P e).map (fun m=>.f_ n m x i)
  |some (.slice e),some x,some i=>(e6 P e).map (fun m=>.mr m x i)
  |_,_,_=>none
 |.index t x i=>
  match P.underlying t,b2 x,b2 i with
  |some .string,some x,some i=>some (.pn x i)
  |some (.array n e),some x,some i=>
   match e6 P e,j4 P e with
   |some m,some bX=>some (.tV n m bX x i)
   |_,_=>none
  |_,_,_=>none
 |.extract x i=>(b2 x).map (.extract · i)
 |.call c=>
  match c.callee with
  |.builtin b=>vX P b c.args.toList c.argTypes.toList mu
  |.value (.func f)=>(sD c.args.toList).map (.call f)
  |.value f=>qO (b2 f) (sD c.args.toList) .hd
  |.invoke _ _=>none
 |_=>none
def A8(n:Nat)(aF:Array Oper)(j:Nat):Option Nat:=
 match aF[j]? with
 |some o=>
  match o.dst with
  |some d=>if d<n then some d else none
  |none=>none
 |none=>none
def yd(n:Nat)(aF:Array Oper):Option (Nat×Bool)->Option (Option (Nat×Bool))
 |none=>some none
 |some (j,gN)=>(A8 n aF j).map fun d=>some (d,gN)
def DK(P:Program)(t:TypeId):Bool:=
 match P.underlying t with
 |some .bool=>true
 |_=>false
def sL(P:Program)(n:Nat)(om:List Nat)(aF:Array Oper)(i:Nat)(o:Oper):Option bt:=
 match gK P (om.contains i) (om.contains (i+5000)) o.type o.op,yd n aF o.guard with
 |some a,some g=>
  match o.dst with
  |none=>some ⟨none,a,DK P o.type,g⟩
  |some d=>if d<n then some ⟨some d,a,DK P o.type,g⟩ else none
 |_,_=>none
def pw(P:Program)(n:Nat)(om:List Nat)(aF:Array Oper):Nat->List Oper->Option (List bt)
 |_,[]=>some []
 |i,o::os=>
  match sL P n om aF i o,pw P n om aF (i+1) os with
  |some a,some a_=>some (a::a_)
  |_,_=>none
def dK.aKq:dK->Bool
 |.buildSlice _ _ _ _=>false
 |op=>!op.hl
def aU.cK:aU->List Nat
 |.tmp t=>[t]
 |.const _=>[]
def xZ:Option aU->List Nat
 |some x=>x.cK
 |none=>[]
def xY:List aU->List Nat
 |[]=>[]
 |x::xs=>x.cK++xY xs
def x0:List (Nat×Nat×aU)->List Nat
 |[]=>[]
 |(_,_,x)::xs=>x.cK++x0 xs
def dK.cK:dK->List Nat
 |.nJ x=>x.cK
 |.pr _=>[]
 |.pick c a b=>c.cK++(a.cK++b.cK)
 |.alloc _=>[]
 |.box _ x=>x.cK
 |.build _ cP=>x0 cP
 |.buildSlice _ _ _ cP=>x0 cP
 |.qS _ _ cP=>x0 cP
 |.load _ _ a=>a.cK
 |.store _ a x=>a.cK++x.cK
 |.nilCheck x=>x.cK
 |.bin _ _ x y=>x.cK++y.cK
 |.un _ x=>x.cK
 |.conv _ x=>x.cK
 |.td x=>x.cK
 |.qT x=>x.cK
 |.my _ da=>xY da
 |.makeSlice _ _ _ l c=>l.cK++c.cK
 |.vN _ _ l c=>l.cK++c.cK
 |.slice _ x lo hi mx=>x.cK++(xZ lo++(xZ hi++xZ mx))
 |.ur x lo hi=>x.cK++(xZ lo++xZ hi)
 |.fieldAddr _ x=>x.cK
 |.field _ _ _ x=>x.cK
 |.f_ _ _ x i=>x.cK++i.cK
 |.mr _ x i=>x.cK++i.cK
 |.pn x i=>x.cK++i.cK
 |.tV _ _ _ x i=>x.cK++i.cK
 |.sy x=>x.cK
 |.nE x=>x.cK
 |.tZ _=>[]
 |.append _ _ _ s x=>s.cK++x.cK
 |.nI _ x y=>x.cK++y.cK
 |.extract x _=>x.cK
 |.makeMap r=>xZ r
 |.lookup _ _ _ _ m k=>m.cK++k.cK
 |.mapUpdate _ m k x=>m.cK++(k.cK++x.cK)
 |.mapEntry _ _ m k=>m.cK++k.cK
 |.entryStore m st x=>m.cK++(st.cK++x.cK)
 |.copy _ d x=>d.cK++x.cK
 |.uq _ x h m=>x.cK++(h.cK++m.cK)
 |.ua x=>x.cK
 |.ry x=>x.cK
 |.call _ args=>xY args
 |.hd f args=>f.cK++xY args
 |.oq _ x y=>x.cK++y.cK
 |.uh x=>x.cK
 |.rz x=>x.cK
 |.tf x=>x.cK
 |.t_ x=>x.cK
def bt.cK(o:bt):List Nat:=
 match o.guard with
 |some (g,_)=>g::o.op.cK
 |none=>o.op.cK
def dK.jz:dK->Bool
 |.call _ _|.hd _ _=>true
 |_=>false
def nB(l:List Nat)(t:Nat):Bool:=l.any fun u=>ep u t
def bt.r3(x y:bt):Bool:=
 (match x.dst with
  |some d=>!nB y.cK d&&(match y.dst with|some e=>!ep e d|none=>true)
  |none=>true)&&
 (match y.dst with
  |some d=>!nB x.cK d
  |none=>true)
def DW(acc:List Nat)(o:Oper):Nat:=
 o.after.toList.foldl (fun s e=>bif Region.binds .any e then(s|||2^e.on)|||acc.getD e.on 0 else s) 0
def gv:List Oper->List Nat->List Nat
 |[],acc=>acc
 |o::os,acc=>gv os (acc++[DW acc o])
def te:Nat->List Oper->Bool
 |_,[]=>true
 |k,o::os=>o.after.toList.all (fun e=>!Region.binds .any e||il e.on k)&&te (k+1) os
def EV(b:Nat)(y:bt):Nat->List bt->Bool
 |_,[]=>true
 |i,x::xs=>(b.testBit i||x.r3 y)&&EV b y (i+1) xs
def EU(a_:List bt):List Nat->List bt->Bool
 |b::js,y::bG=>EV b y 0 (a_.take (a_.length -bG.length -1))&&EU a_ js bG
 |_,_=>true
def Bl(k:Nat)(b:Nat):Nat->List Nat->Bool
 |_,[]=>true
 |i,c::cs=>(bif il i k then b.testBit i else bif il k i then c.testBit k else true)&&Bl k b (i+1) cs
def sB(B:List Nat):Nat->List Nat->List bt->List Bool
 |k,b::js,o::os=>(!((o.op.hl||o.op.jz)&&Bl k b 0 B))::sB B (k+1) js os
 |_,_,_=>[]
def t7:List Bool->List bt->Bool
 |q::dN,o::os=>(!q||!o.op.hl)&&t7 dN os
 |_,_=>true
def Jd(aF:Array Oper)(a_:List bt):Option (List Bool):=
 let B:=gv aF.toList []
 let dN:=sB B 0 B a_
 bif te 0 aF.toList&&EU a_ B a_&&t7 dN a_&&Region.noSelect aF&&ep a_.length aF.size then some dN else none
def w1(p:Nat->Bool):Nat->Nat->Option Nat
 |_,0=>none
 |i,f+1=>bif p i then some i else w1 p (i+1) f
def Nu(B:List Nat)(aN:List Bool)(n:Nat):Nat->Nat->List Nat->Option (List Nat)
 |0,_,acc=>some acc.reverse
 |f+1,jJ,acc=>
  match w1 (fun i=>!(jJ.testBit i)&&ep (B.getD i 0&&&jJ) (B.getD i 0)&&!(aN.getD i true)) 0 n with
  |some i=>Nu B aN n f (jJ|||2^i) (i::acc)
  |none=>
   match w1 (fun i=>!(jJ.testBit i)&&ep (B.getD i 0&&&jJ) (B.getD i 0)) 0 n with
   |some i=>Nu B aN n f (jJ|||2^i) (i::acc)
   |none=>none
def ub(o:bt):Bool:=
 match o.guard with
 |none=>true
 |some _=>false
def n0(B aO:List Nat)(i k:Nat):Bool:=(B.getD (aO.getD k 0) 0).testBit (aO.getD i 0)
def n4(B aO:List Nat)(aN:List Bool)(n:Nat):List (Option (List Nat)):=
 (c1 n).map fun p=>bif aN.getD (aO.getD p 0) true then some ((c1 p).filter fun j=>!n0 B aO j p&&!aN.getD (aO.getD j 0) true) else none
def Jt(o:bt):Bool:=
 match o with
 |⟨some _,.alloc _,false,none⟩=>true
 |_=>false
def dK.xR:dK->Bool
 |.call _ _=>true
 |_=>false
def n2(fE:Bool)(o:bt):Bool:=o.op.hl||(o.op.jz&&!(fE&&o.op.xR))
def Jq(fE:Bool)(B aO:List Nat)(bJ:List (Option (List Nat)))(a_:List bt)(n p:Nat):Bool:=
 !fE&&il (p+1) n&&Jt (a_.getD p default)&&Jt (a_.getD (p+1) default)&&(match bJ.getD (p+1) none with|some _=>true|none=>false)&&
  (c1 n).all fun i=>!il (p+1) i||(n0 B aO p i&&n0 B aO (p+1) i)
def Ai(fE:Bool)(B aO:List Nat)(bJ:List (Option (List Nat)))(a_:List bt)(n p:Nat):Bool:=
 match bJ.getD p none with
 |none=>!n2 fE (a_.getD p default)
 |some l=>ub (a_.getD p default)&&((c1 n).all (fun i=>!il p i||n0 B aO p i)||Jq fE B aO bJ a_ n p)&&
   (c1 p).all fun j=>n0 B aO j p||(ep (j+1) p&&Jq fE B aO bJ a_ n j)||(nB l j&&ub (a_.getD j default)&&(a_.getD j default).dst.isSome&&(match bJ.getD j (some []) with|none=>true|some _=>false))
def Je(fE:Bool)(aF:Array Oper)(a_:List bt):Option (List bt×List (Option (List Nat))):=
 let n:=a_.length
 let B:=gv aF.toList []
 let aN:=a_.map (n2 fE)
 match Nu B aN n n 0 [] with
 |none=>none
 |some aO=>
  let bj:=aO.map fun i=>a_.getD i default
  let bJ:=n4 B aO aN n
  bif ep aO.length n&&ep n aF.size&&te 0 aF.toList&&(c1 n).all (fun k=>nB aO k)&&
   (c1 n).all (fun k=>il (aO.getD k 0) n&&(c1 k).all fun i=>!ep (aO.getD i 0) (aO.getD k 0))&&
   (c1 n).all (fun k=>(c1 k).all fun i=>n0 B aO i k||(bj.getD i default).r3 (bj.getD k default))&&
   (c1 n).all (fun p=>Ai fE B aO bJ bj n p) then some (bj,bJ) else none
def Jo(B:List Nat)(aN:List Bool)(ro n:Nat):Nat->Nat->List Nat->Option (List Nat)
 |0,_,acc=>some acc.reverse
 |f+1,jJ,acc=>
  match w1 (fun i=>!(jJ.testBit i)&&ep (B.getD i 0&&&jJ) (B.getD i 0)&&!(aN.getD i true)) 0 n with
  |some i=>Jo B aN ro n f (jJ|||2^i) (i::acc)
  |none=>
   match w1 (fun i=>!(jJ.testBit i)&&ep (B.getD i 0&&&jJ) (B.getD i 0)&&!ep i ro) 0 n with
   |some i=>Jo B aN ro n f (jJ|||2^i) (i::acc)
   |none=>
    match w1 (fun i=>!(jJ.testBit i)&&ep (B.getD i 0&&&jJ) (B.getD i 0)) 0 n with
    |some i=>Jo B aN ro n f (jJ|||2^i) (i::acc)
    |none=>none
def D0(f:Option (List Nat)):Bool:=
 match f with
 |none=>true
 |some _=>false
def Ji(B aO:List Nat)(bJ:List (Option (List Nat)))(a_:List bt)(n c p:Nat):Bool:=
 match bJ.getD p none with
 |none=>Ai false B aO bJ a_ n p
 |some l=>
  bif il c p then Ai false B aO bJ a_ n p else
  bif il p c then ub (a_.getD p default)&&(c1 n).all (fun i=>!il p i||ep i c||n0 B aO p i)&&
   (c1 p).all fun j=>n0 B aO j p||(nB l j&&ub (a_.getD j default)&&(a_.getD j default).dst.isSome&&D0 (bJ.getD j (some [])))
  else(c1 n).all (fun i=>!il c i||n0 B aO c i)&&
   (c1 p).all fun j=>!D0 (bJ.getD j none)||n0 B aO j p||(nB l j&&ub (a_.getD j default)&&(a_.getD j default).dst.isSome)
def Nk(ro:Nat)(aF:Array Oper)(a_:List bt):Option (Nat×List V×List bt×List (Option (List Nat))):=
 let n:=a_.length
 let B:=gv aF.toList []
 let aN:=a_.map (n2 false)
 match Jo B aN ro n n 0 [] with
 |none=>none
 |some aO=>
  let bj:=aO.map fun i=>a_.getD i default
  let bJ:=n4 B aO aN n
  match w1 (fun p=>ep (aO.getD p 0) ro) 0 n with
  |none=>none
  |some c=>
   match bj[c]?,bJ[c]? with
   |some ⟨some _,.alloc z,false,none⟩,some (some _)=>
    bif ep aO.length n&&ep n aF.size&&te 0 aF.toList&&(c1 n).all (fun k=>nB aO k)&&
     (c1 n).all (fun k=>il (aO.getD k 0) n&&(c1 k).all fun i=>!ep (aO.getD i 0) (aO.getD k 0))&&
     (c1 n).all (fun k=>(c1 k).all fun i=>n0 B aO i k||(bj.getD i default).r3 (bj.getD k default))&&
     (c1 n).all (fun p=>Ji B aO bJ bj n c p) then some (c,z,bj,bJ) else none
   |_,_=>none
def Uw:List Nat->Option Nat
 |[]=>none
 |x::xs=>bif il 39999 x then some (x -40000) else Uw xs
structure Hints where
 live:List (Nat×List Nat):=[]
 loops:List (Nat×List Nat):=[]
 om:List (Nat×List Nat):=[]
def look(l:List (Nat×List Nat))(k:Nat):List Nat:=
 match l with
 |[]=>[]
 |(a,xs)::r=>bif ep a k then xs else look r k
def oZ:Code->Nat
 |.region id _ _=>id
 |.seq a b=>min (oZ a) (oZ b)
 |.cond _ a b=>min (oZ a) (oZ b)
 |.block _ a=>oZ a
 |.loop a=>oZ a
 |.scope a=>oZ a
 |_=>1000000
def Lk:Code->Option Nat
 |.seq a b=>(Lk a).or (Lk b)
 |.label l=>some l
 |_=>none
def pv(P:Program)(n:Nat)(h:Hints):Nat->Code->Option bc
 |0,_=>none
 |k+1,c=>
  match c with
  |.skip=>some .skip
  |.region id aF y3=>
   match pw P n (look h.om id) aF 0 aF.toList with
   |some os=>
    if y3 then
     if P.follows .mixedOrders then
      match bif nB (look h.om id) 9999||nB (look h.om id) 9998 then none else Jd aF os with
      |some dN=>some (.mixed os dN (look h.live id))
      |none=>
       match Uw (look h.om id) with
       |some ro=>(Nk ro aF os).map (fun x=>.sd x.1 x.2.1 x.2.2.1 x.2.2.2 (look h.live id))
       |none=>(Je (nB (look h.om id) 9998) aF os).map (fun x=>.float x.1 x.2 (look h.live id))
     else none
    else some (.region os (look h.live id))
   |none=>none
  |.seq a b=>qO (pv P n h k a) (pv P n h k b) .seq
  |.cond c a b=>
   match b2 c,pv P n h k a,pv P n h k b with
   |some c,some a,some b=>some (.cond c a b)
   |_,_,_=>none
  |.block id a=>(pv P n h k a).map (.block id)
  |.loop a=>(pv P n h k a).map (.loop (look h.loops (oZ a)))
  |.scope a=>
   match Lk a with
   |some l=>
    match findLabel a l with
    |some dD=>qO (pv P n h k a) (pv P n h k dD) (.scope l (look h.loops (oZ dD)))
    |none=>none
   |none=>none
  |.exit id=>some (.exit id)
  |.label _=>some .label
  |.goto l=>some (.goto l)
  |.ret=>some .ret
  |.rangeFunc _ _ _ _=>none
  |.refuse _=>none
def ou(P:Program)(n:Nat):List ResultVar->Option (List mJ)
 |[]=>some []
 |.tmp t::rs=>(ou P n rs).map (.tmp t::·)
 |.cell t na::rs=>
  match e6 P na,j4 P na,ou P n rs with
  |some m,some bX,some a_=>some (.cell t m bX::a_)
  |_,_,_=>none
def bC(P:Program)(h:Hints)(f:Nat):Option bu:=
 match P.funcs[f]? with
 |some fn=>
  match fn.body with
  |some c=>
   bif fn.name != "runtime.NumGoroutine" then
    match pv P fn.ntmps h 200 c,ou P fn.ntmps fn.results.toList with
    |some b,some rs=>some ⟨fn.ntmps,rs,b⟩
    |_,_=>none
   else none
  |none=>none
 |none=>none
end Go.aQ
namespace Go.aQ
theorem ZO(v:V)(K:V->Prop):lL (some v) K=K v:=rfl
theorem XK(A B:Prop):jZ true A B=A:=rfl
theorem XH(A B:Prop):jZ false A B=B:=rfl
theorem AJ{p:Prop}[Decidable p]{A B:Prop}(U:p->A)(af:¬p->B):jZ (decide p) A B:=by
 by_cases h:p
 . simp only[h,decide_true];exact U h
 . simp only[h,decide_false];exact af h
theorem XJ{b:Bool}{A B:Prop}(U:b=true->A)(af:b=false->B):jZ b A B:=by
 cases b
 . exact af rfl
 . exact U rfl
theorem XI(b:Bool)(A B:Prop):jZ (!b) A B=jZ b B A:=by cases b<;>rfl
theorem Xk(P:Program)(a b:bc)(Q:Exit->aH->Mem->Prop)(s:aH)(M:Mem):dv P (.seq a b) Q s M=dv P a (yh (dv P b) Q) s M:=rfl
theorem aNv(P:Program)(Q:Exit->aH->Mem->Prop)(s:aH)(M:Mem):dv P .skip Q s M=Q .normal s M:=rfl
theorem aNs(P:Program)(Q:Exit->aH->Mem->Prop)(s:aH)(M:Mem):dv P .label Q s M=Q .normal s M:=rfl
theorem aNu(P:Program)(Q:Exit->aH->Mem->Prop)(s:aH)(M:Mem):dv P .ret Q s M=Q .ret s M:=rfl
theorem aNq(P:Program)(id:Nat)(Q:Exit->aH->Mem->Prop)(s:aH)(M:Mem):dv P (.exit id) Q s M=Q (.exit id) s M:=rfl
theorem aNr(P:Program)(l:Nat)(Q:Exit->aH->Mem->Prop)(s:aH)(M:Mem):dv P (.goto l) Q s M=Q (.goto l) s M:=rfl
theorem aNm(P:Program)(id:Nat)(a:bc)(Q:Exit->aH->Mem->Prop)(s:aH)(M:Mem):dv P (.block id a) Q s M=dv P a (pI id Q) s M:=rfl
theorem aNn{P:Program}{c:aU}{a b:bc}{Q:Exit->aH->Mem->Prop}{s:aH}{M:Mem}{t:Bool}(h:aN s c=.bool t):dv P (.cond c a b) Q s M=jZ t (dv P a Q s M) (dv P b Q s M):=by
 simp only[dv,h]
def A3(v:V)(A B:Prop):Prop:=
 match v with
 |.bool t=>jZ t A B
 |_=>False
theorem aNp(P:Program)(t:Nat)(a b:bc)(Q:Exit->aH->Mem->Prop)(s:aH)(M:Mem):dv P (.cond (.tmp t) a b) Q s M=A3 (aY s t) (dv P a Q s M) (dv P b Q s M):=by
 simp only[dv,aN,A3]<;>cases aY s t<;>rfl
theorem aLA(next:(Exit->aH->Mem->Prop)->aH->Mem->Prop)(Q:Exit->aH->Mem->Prop)(s:aH)(M:Mem):yh next Q .normal s M=next Q s M:=rfl
theorem aLB(next:(Exit->aH->Mem->Prop)->aH->Mem->Prop)(Q:Exit->aH->Mem->Prop)(s:aH)(M:Mem):yh next Q .ret s M=Q .ret s M:=rfl
theorem aLy(next:(Exit->aH->Mem->Prop)->aH->Mem->Prop)(Q:Exit->aH->Mem->Prop)(id:Nat)(s:aH)(M:Mem):yh next Q (.exit id) s M=Q (.exit id) s M:=rfl
theorem aLz(next:(Exit->aH->Mem->Prop)->aH->Mem->Prop)(Q:Exit->aH->Mem->Prop)(id:Nat)(s:aH)(M:Mem):yh next Q (.goto id) s M=Q (.goto id) s M:=rfl
theorem abx(id:Nat)(Q:Exit->aH->Mem->Prop)(s:aH)(M:Mem):pI id Q .normal s M=Q .normal s M:=rfl
theorem aby(id:Nat)(Q:Exit->aH->Mem->Prop)(s:aH)(M:Mem):pI id Q .ret s M=Q .ret s M:=rfl
theorem abw(id l:Nat)(Q:Exit->aH->Mem->Prop)(s:aH)(M:Mem):pI id Q (.goto l) s M=Q (.goto l) s M:=rfl
theorem abv(id nA:Nat)(Q:Exit->aH->Mem->Prop)(s:aH)(M:Mem):pI id Q (.exit nA) s M=bif nA==id then Q .normal s M else Q (.exit nA) s M:=rfl
theorem aLa(dy:Nat->List V->Mem->Prop)(n len:Nat)(live:List Nat)(Q:Exit->aH->Mem->Prop)(s:aH)(M:Mem):nM dy n len live Q .ret s M=Q .ret s M:=rfl
theorem aK9(dy:Nat->List V->Mem->Prop)(n len:Nat)(live:List Nat)(Q:Exit->aH->Mem->Prop)(id:Nat)(s:aH)(M:Mem):nM dy n len live Q (.exit id) s M=Q (.exit id) s M:=rfl
theorem aK_(dy:Nat->List V->Mem->Prop)(n len:Nat)(live:List Nat)(Q:Exit->aH->Mem->Prop)(id:Nat)(s:aH)(M:Mem):nM dy n len live Q (.goto id) s M=Q (.goto id) s M:=rfl
theorem yf{dy:Nat->List V->Mem->Prop}{n len:Nat}{live:List Nat}{Q:Exit->aH->Mem->Prop}{s:aH}{M:Mem}(m:Nat)(h:m<n)(lv:dy m (dt s live) M):nM dy n len live Q .normal s M:=.inl ⟨m,h,lv⟩
theorem JB{dy:Nat->List V->Mem->Prop}{n len:Nat}{live:List Nat}{Q:Exit->aH->Mem->Prop}{s:aH}{M:Mem}(m:Nat)(h:m<n)(ax:hK len (dt s live) M=true)(lv:dy m (dt s live) (M.take len)):nM dy n len live Q .normal s M:=.inr ⟨ax,m,h,lv⟩
theorem oC{P:Program}{live:List Nat}{a:bc}{Q:Exit->aH->Mem->Prop}{s:aH}{M:Mem}(dy:Nat->List V->Mem->Prop)(n:Nat)(a4:dy n (dt s live) M)
 (h:∀n vs cz,dy n vs cz->dv P a (nM dy n M.length live Q) (k_ live vs) cz):dv P (.loop live a) Q s M:=⟨dy,n,a4,h⟩
theorem aA7(rs:List mJ)(R:Option V->Mem->Prop)(s:aH)(M:Mem):pN rs R .normal s M=R (pu s M rs) M:=rfl
theorem aA8(rs:List mJ)(R:Option V->Mem->Prop)(s:aH)(M:Mem):pN rs R .ret s M=R (pu s M rs) M:=rfl
theorem Vz(base:Nat)(R:V->Mem->Prop)(v:V)(M:Mem):Jv base R (some v) M=lL (fu M base 20 v) fun dV=>(dV.under base&&decide (base<=M.length)&&cL base (M.take base))=true/\R dV (M.take base):=rfl
theorem aHR(R:V->Mem->Prop)(v:V)(M:Mem):rq R (some v) M=R v M:=rfl
theorem qv(n:Int)(U:-9223372036854775808<=n)(af:n<=9223372036854775807):IntKind.i64.wrap n=n:=by
 have e:(2:Int)^IntKind.i64.bits=18446744073709551616:=by decide
 have fm:(2:Int)^(IntKind.i64.bits -1)=9223372036854775808:=by decide
 unfold IntKind.wrap;simp only[e,fm,show IntKind.i64.signed=true from rfl,Bool.true_and,decide_eq_true_eq];split<;>omega
theorem Xp(n:Int)(U:0<=n)(af:n<=18446744073709551615):IntKind.u64.wrap n=n:=by
 have e:(2:Int)^IntKind.u64.bits=18446744073709551616:=by decide
 unfold IntKind.wrap;simp only[e,show IntKind.u64.signed=false from rfl,Bool.false_and];simp only[i_,if_false];omega
theorem toNat_sub1(i:Nat):((i:Int) -1).toNat=i -1:=by omega
theorem toNat_add1(i:Nat):((i:Int)+1).toNat=i+1:=by omega
theorem toNat_lit0:(0:Int).toNat=0:=rfl
theorem aa_(k:IntKind)(e:iK)(a b:Int):dB .add e (.int k a) (.int k b)=some (.int k (k.wrap (a+b))):=by simp[dB,kQ]
theorem abt(k:IntKind)(e:iK)(a b:Int):dB .sub e (.int k a) (.int k b)=some (.int k (k.wrap (a -b))):=by simp[dB,kQ]
theorem abm(k:IntKind)(e:iK)(a b:Int):dB .mul e (.int k a) (.int k b)=some (.int k (k.wrap (a*b))):=by simp[dB,kQ]
theorem KD(k:IntKind)(e:iK)(a b:Int)(h:b≠0):dB .quo e (.int k a) (.int k b)=some (.int k (k.wrap (a.tdiv b))):=by simp[dB,kQ,h]
theorem abg(k:IntKind)(e:iK)(a b:Int):dB .eql e (.int k a) (.int k b)=some (.bool (decide (a=b))):=by simp[dB,kQ]
theorem abn(k:IntKind)(e:iK)(a b:Int):dB .neq e (.int k a) (.int k b)=some (.bool (!decide (a=b))):=by simp[dB,kQ]
theorem abl(k:IntKind)(e:iK)(a b:Int):dB .lss e (.int k a) (.int k b)=some (.bool (decide (a<b))):=by simp[dB,kQ]
theorem abk(k:IntKind)(e:iK)(a b:Int):dB .leq e (.int k a) (.int k b)=some (.bool (decide (a<=b))):=by simp[dB,kQ]
theorem abi(k:IntKind)(e:iK)(a b:Int):dB .gtr e (.int k a) (.int k b)=some (.bool (decide (b<a))):=by simp[dB,kQ]
theorem abh(k:IntKind)(e:iK)(a b:Int):dB .geq e (.int k a) (.int k b)=some (.bool (decide (b<=a))):=by simp[dB,kQ]
def ES(k:IntKind)(x y:Int):Int:=k.wrap ((iv k.bits x&&&iv k.bits y).toNat:Int)
def qk(k:IntKind)(x y:Int):Int:=k.wrap ((iv k.bits x|||iv k.bits y).toNat:Int)
def Xq(k:IntKind)(x y:Int):Int:=k.wrap ((iv k.bits x^^^iv k.bits y).toNat:Int)
def Kq(k:IntKind)(x y:Int):Int:=k.wrap ((iv k.bits x&&&~~~iv k.bits y).toNat:Int)
theorem abc(k:IntKind)(e:iK)(a b:Int):dB .and e (.int k a) (.int k b)=some (.int k (ES k a b)):=by simp[dB,kQ,qP,ES]
theorem abp(k:IntKind)(e:iK)(a b:Int):dB .or e (.int k a) (.int k b)=some (.int k (qk k a b)):=by simp[dB,kQ,qP,qk]
theorem abu(k:IntKind)(e:iK)(a b:Int):dB .xor e (.int k a) (.int k b)=some (.int k (Xq k a b)):=by simp[dB,kQ,qP,Xq]
theorem abd(k:IntKind)(e:iK)(a b:Int):dB .andNot e (.int k a) (.int k b)=some (.int k (Kq k a b)):=by simp[dB,kQ,qP,Kq]
theorem abq(e:iK)(a b:List UInt8):dB .eql e (.str a) (.str b)=some (.bool (decide (a=b))):=rfl
theorem abr(e:iK)(a b:List UInt8):dB .neq e (.str a) (.str b)=some (.bool (!decide (a=b))):=rfl
theorem abe(a b:Bool):dB .eql .bool (.bool a) (.bool b)=some (.bool (decide (a=b))):=rfl
theorem abf(a b:Bool):dB .neq .bool (.bool a) (.bool b)=some (.bool (!decide (a=b))):=rfl
theorem aMI(b:Bool):v9 .not (.bool b)=some (.bool (!b)):=rfl
theorem aMH(k:IntKind)(n:Int):v9 .neg (.int k n)=some (.int k (k.wrap (0 -n))):=rfl
theorem aJ9(a b:V):vS (.bool true) a b=some a:=rfl
theorem aJ7(a b:V):vS (.bool false) a b=some b:=rfl
theorem aHE{sz:Nat}{rows:List (List V)}{c:c3}{k:IntKind}{i:Int}{M:Mem}(h:0<=i):jj sz (.slice rows c) (.int k i) M=(match rows[i.toNat]? with|some r=>bif r.length==sz then some (.gC r) else none|none=>none):=by
 simp only[jj,h,decide_true,cond_true]<;>rfl
theorem Ul{sz id ver start len:Nat}{k:IntKind}{i:Int}{M:Mem}(h:0<=i):jj sz (.aX id ver start len) (.int k i) M=(match M[id]? with
 |some (.arr z rows v _)=>bif z==sz&&v==ver&&decide (i.toNat<len)&&decide (start+len<=rows.length) then some (.fo id ver (start+i.toNat) 0) else none
 |some (.vec cells v)=>bif sz==1&&v==ver&&decide (i.toNat<len)&&decide (start+len<=cells.length) then some (.fo id ver (start+i.toNat) 0) else none
 |_=>none):=by
 simp only[jj,h,decide_true,cond_true]<;>rfl
theorem aHz{len sz:Nat}{x:V}{k:IntKind}{i:Int}(h:0<=i)(af:i<len):pm len sz x (.int k i)=kz (i.toNat*sz) x:=by
 simp[pm,h,af]
theorem aHF{s:List UInt8}{k:IntKind}{i:Int}(h:0<=i):vG (.str s) (.int k i)=(s[i.toNat]?).map fun b=>.int .u8 b.toNat:=by
 simp only[vG,h,decide_true,cond_true];cases s[i.toNat]? <;>rfl
theorem aJn(off:Nat)(cells:List V):kz off (.cN cells)=bif decide (off<=cells.length) then some (.gC (cells.drop off)) else none:=rfl
theorem aIy(n:Nat)(bX:Bool)(cells:List V)(M:Mem):hn n bX (.cN cells) M=iC n bX cells 0:=rfl
theorem aJp(off:Nat)(cells:List V):kz off (.gC cells)=bif decide (off<=cells.length) then some (.gC (cells.drop off)) else none:=rfl
theorem aJo(off id o:Nat):kz off (.ptr id o)=some (.ptr id (o+off)):=rfl
theorem aJm(off id v row o:Nat):kz off (.fo id v row o)=some (.fo id v row (o+off)):=rfl
theorem aIA(n:Nat)(bX:Bool)(cells:List V)(M:Mem):hn n bX (.gC cells) M=iC n bX cells 0:=rfl
theorem aIz(n:Nat)(bX:Bool)(id off:Nat)(M:Mem):hn n bX (.ptr id off) M=(match M[id]? with|some (.box cells)=>iC n bX cells off|_=>none):=rfl
theorem UF(n:Nat)(bX:Bool)(id ver row off:Nat)(M:Mem):hn n bX (.fo id ver row off) M=(match M[id]? with
 |some (.arr _ rows v _)=>
  bif v==ver then
   match rows[row]? with
   |some r=>iC n bX r off
   |none=>none
  else none
 |some (.vec cells v)=>bif v==ver then En n bX off cells row else none
 |_=>none):=rfl
theorem aIu(n:Nat)(cells:List V)(off:Nat):iC n false cells off=cells[off]? :=rfl
theorem aIt(n:Nat)(cells:List V)(off:Nat):iC n true cells off=bif decide (off+n<=cells.length) then some (.agg ((cells.drop off).take n)) else none:=rfl
theorem aIi(rows:List (List V))(c:c3)(M:Mem):i0 (.slice rows c) M=some (.int .i64 rows.length):=rfl
theorem aIh(id ver start len:Nat)(M:Mem):i0 (.aX id ver start len) M=(match M[id]? with
 |some (.arr _ _ v _)=>bif v==ver then some (.int .i64 len) else none
 |some (.vec _ v)=>bif v==ver then some (.int .i64 len) else none
 |_=>none):=rfl
theorem aIc(s:List UInt8):xV (.str s)=some (.int .i64 s.length):=rfl
theorem aBy(vs:List V)(i:Nat):wX (.tuple vs) i=vs[i]? :=rfl
theorem QB(k dj:IntKind)(n:Int):uP k (.int dj n)=some (.int k (k.wrap n)):=rfl
theorem aBM(off n:Nat)(bX:Bool)(cells:List V):wZ off n bX (.agg cells)=iC n bX cells off:=rfl
end Go.aQ
namespace Go.aQ
open Go.RowKit (Below)
def eh(w:World)(Γ:Env)(s:aH)(tmps:Array Value):Prop:=∀t,bp w Γ (aY s t) (tmps.getD t Go.undef)
theorem eh.ext{w w':World}{Γ Γ':Env}(he:Ext w Γ w' Γ'){s:aH}{tmps:Array Value}(h:eh w Γ s tmps):eh w' Γ' s tmps:=fun t=>(h t).ext he
theorem Qs{w:World}{Γ:Env}{v:Value}{x:V}(h:E9 v=some x):bp w Γ x v/\x.kd=true:=by
 unfold E9 at h;split at h<;>simp only[aV,reduceCtorEq] at h
 . subst h;exact⟨.bool _,rfl⟩
 . subst h;exact⟨.int _ _,rfl⟩
 . subst h;exact⟨by simpa using bp.str (w:=w) (Γ:=Γ) _,rfl⟩
 . subst h;exact⟨.dm,rfl⟩
 . subst h;exact⟨.iE _ (.inl rfl),rfl⟩
 . subst h;exact⟨.jB,rfl⟩
 . subst h;exact⟨.gu,rfl⟩
theorem Fb{w:World}{Γ:Env}:∀{vs:List Value}{xs:List V},wJ vs=some xs->vs.length=xs.length/\∀(j:Nat)(x:V),xs[j]? =some x->bp w Γ x (vs.toArray.getD j Go.undef)/\x.kd=true
 |[],xs,h=>by
  simp only[wJ,aV] at h;subst h;exact⟨rfl,fun j x ab=>by simp at ab⟩
 |v::vs,xs,h=>by
  simp only[wJ] at h;split at h<;>simp only[aV,reduceCtorEq] at h;rename_i x bG U af;subst h;obtain⟨ag,al⟩:=Fb af;refine⟨by simp[ag],fun j y aD=>?_⟩;cases j with
  |zero=>
   simp only[ja,aV] at aD;subst aD;simpa using Qs U
  |succ j=>
   simp only[List.getElem?_cons_succ] at aD;have:=al j y aD;simpa[ih] using this
theorem aAr{w:World}{Γ:Env}{v:Value}{x:V}(h:KS v=some x):bp w Γ x v:=by
 unfold KS at h;split at h
 . rename_i cs
   cases ar:wJ cs.toList with
   |none=>simp[ar] at h
   |some xs=>
    simp only[ar,mI,aV] at h;subst h;obtain⟨ag,al⟩:=Fb (w:=w) (Γ:=Γ) ar;exact .agg xs cs (by simpa using ag) (fun j x ab=>by simpa using(al j x ab).1)
 . exact(Qs h).1
theorem d4{w:World}{Γ:Env}{s:aH}{a:Act}(ak:eh w Γ s a.tmps){x:Operand}{y:aU}(h:b2 x=some y):bp w Γ (aN s y) (a.eval x):=by
 cases x with
 |tmp t=>
  simp only[b2,aV] at h;subst h;exact ak t
 |const v=>
  simp only[b2,dJ] at h;obtain⟨z,a7,rfl⟩:=h;exact aAr a7
 |func f=>
  simp only[b2,aV] at h;subst h;exact .dH f [] #[] rfl (fun j x ab=>by simp at ab) (fun j x ab=>by simp at ab)
 |global g=>simp[b2] at h
theorem Jk{w:World}{Γ:Env}{s:aH}{a:Act}(ak:eh w Γ s a.tmps):∀{xs:List Operand}{bG:List aU},sD xs=some bG->ef w Γ (e9 s bG) (xs.map a.eval).toArray
 |[],bG,h=>by
  simp only[sD,aV] at h;subst h;exact⟨rfl,fun j x ab=>by simp[e9] at ab⟩
 |x::xs,bG,h=>by
  simp only[sD] at h;split at h<;>simp only[aV,reduceCtorEq] at h;rename_i y lG U af;subst h;obtain⟨ag,al⟩:=Jk ak af;refine⟨by simp[e9] at ag⊢;exact ag,fun j z a7=>?_⟩;cases j with
  |zero=>
   simp only[e9,ja,aV] at a7;subst a7;simpa using d4 ak U
  |succ j=>
   simp only[e9,List.getElem?_cons_succ] at a7;have:=al j z a7;simpa[ih] using this
def hv(P:Program)(w:World)(Γ:Env)(a:Act)(o:Oper)(v:V):Prop:=
 ∃bl,bp w Γ v bl/\∀w',Below w.heap.size w w'->(execOp a.eval o).run P w'=.ok (.value bl) w'
section
variable{P:Program}{w:World}{Γ:Env}{M:Mem}{s:aH}{a:Act}{o:Oper}{v:V}
theorem ej{t:TypeId}{d:TypeDesc}(h:P.underlying t=some d)(w':World):(underlying t).run P w'=.ok d w':=by
 simp[underlying,h]
theorem gV{t:TypeId}{n:Nat}(h:e6 P t=some n)(w':World):(sizeOf t).run P w'=.ok n w':=by
 unfold e6 at h;split at h<;>simp only[aV,reduceCtorEq] at h;rename_i i hi;subst h;simp[sizeOf,typeInfo,hi]
theorem vI{t:TypeId}{b:Bool}(h:j4 P t=some b)(w':World):(isAgg t).run P w'=.ok b w':=by
 unfold j4 at h;split at h<;>simp only[aV,reduceCtorEq] at h<;>subst h
 . rename_i hu;simp[isAgg,underlying,hu]
 . rename_i hu;simp[isAgg,underlying,hu]
 . rename_i d U af hu
   simp only[isAgg,underlying,Sem.run_bind,run_program,Result.andThen_ok,hu,Sem.run_pure]
theorem Nn(ak:eh w Γ s a.tmps){x:Operand}{y:aU}(az:o.op=.move x∨o.op=.assign x)(aD:b2 x=some y):hv P w Γ a o (aN s y):=by
 refine⟨a.eval x,d4 ak aD,fun w' _=>?_⟩;rcases az with az|az<;>simp[execOp,az]
theorem qs{x:V}{b:Bool}{bl:Value}(h:bp w Γ x bl)(ab:x=.bool b):bl=.bool b:=by
 subst ab;cases h;rfl
theorem kf{k:IntKind}{n:Int}{bl:Value}(h:bp w Γ (.int k n) bl):bl=.int k n:=by
 cases h;rfl
theorem rF{l:List UInt8}{bl:Value}(h:bp w Γ (.str l) bl):bl=.string ⟨l.toArray⟩:=by
 cases h;rfl
theorem aJ8(ak:eh w Γ s a.tmps){c x y:Operand}{c0 df g8:aU}(az:o.op=.pick c x y)(ar:b2 c=some c0)(ab:b2 x=some df)(aD:b2 y=some g8)
 (h:vS (aN s c0) (aN s df) (aN s g8)=some v):hv P w Γ a o v:=by
 unfold vS at h;split at h<;>simp only[aV,reduceCtorEq] at h;rename_i t aT;have e:=qs (d4 ak ar) aT;subst h;cases t with
 |true=>exact⟨a.eval x,d4 ak ab,fun w' _=>by simp[execOp,az,e,asBool]⟩
 |false=>exact⟨a.eval y,d4 ak aD,fun w' _=>by simp[execOp,az,e,asBool]⟩
def wv(w:World)(Γ:Env)(b o:Nat)(cells:List V):Prop:=∀(j:Nat)(x:V),cells[j]? =some x->∃c,w.cell? ⟨b,o+j,none⟩=some c/\bp w Γ x c
theorem az1{b j:Nat}{c:Value}(h:w.cell? ⟨b,j,none⟩=some c):b<w.heap.size:=World.block_lt_of_cell? (a:=⟨b,j,none⟩) w h
theorem KM{w':World}{b j:Nat}{c:Value}(h:w.cell? ⟨b,j,none⟩=some c)(aj:Below w.heap.size w w'):w'.cell? ⟨b,j,none⟩=some c:=
 (ta (aj.block b (az1 h))).trans h
theorem bp.row(aB:Good w Γ M){x:V}{bg:Value}(h:bp w Γ x bg):match x with
 |.gC cells=>∃b o,bg=.pointer (some ⟨b,o,none⟩)/\wv w Γ b o cells
 |.cN cells=>∃b o,bg=.pointer (some ⟨b,o,none⟩)/\wv w Γ b o cells
 |.ptr id off=>∃b,bg=.pointer (some ⟨b,off,none⟩)/\∀cells,M[id]? =some (.box cells)->wv w Γ b 0 cells
 |.fo id ver row off=>∀sz rows fz r,M[id]? =some (.arr sz rows ver fz)->rows[row]? =some r->∃b o,bg=.pointer (some ⟨b,o+off,none⟩)/\wv w Γ b o r
 |_=>True:=by
 cases h with
 |gC cells b o bl ak dL ax al=>
  refine⟨b,o,rfl,fun j x ab=>⟨bl j,dL j (bn.1 ab).1,al j x ab⟩⟩
 |cN cells b o bl aK ak dL ax al=>
  refine⟨b,o,rfl,fun j x ab=>⟨bl j,congrArg Prod.fst (dL j (bn.1 ab).1),al j x ab⟩⟩
 |ptr id off l ag aj aq=>
  refine⟨l.b,rfl,fun cells bb j x ab=>?_⟩;obtain⟨c,U,af,_⟩:=aB.abD ag bb ab;exact⟨c,by simpa using U,af⟩
 |fo id ver row off l ag aq v h=>
  intro sz rows fz r bb al;obtain⟨U,a4,af,ay,be,bv,b7,dQ,ch⟩:=aB.eG id l _ ag bb;have iq:row<rows.length:=(bn.1 al).1;have ed:l.live=true:=by
   cases jx:l.live with
   |true=>rfl
   |false=>have:=bv jx;omega
  obtain⟨_,c,T,ch,eL,fp⟩:=ch ed;refine⟨l.b,row*l.sz,by rw[h af],fun j x ab=>?_⟩;have ap:j<l.sz:=by rw[<-b7 row r al];exact(bn.1 ab).1
  have bw:row*l.sz+j<c.size:=by
   rw[eL];have:(row+1)*l.sz<=l.cap*l.sz:=jo _ (by omega);rw[ik] at this;omega
  exact⟨c.getD (row*l.sz+j) Go.undef,by rw[km ch];exact jK bw,fp row r j x al ab⟩
 |_=>trivial
theorem bp.aMY(aB:Good w Γ M){id ver row off:Nat}{bg:Value}(h:bp w Γ (.fo id ver row off) bg){cells:List V}(bb:M[id]? =some (.vec cells ver)){x:V}(ab:cells[row]? =some x):
 ∃b,bg=.pointer (some ⟨b,row+off,none⟩)/\wv w Γ b row [x]:=by
 cases h with
 |fo _ _ _ _ l ag aq p ax=>
  obtain⟨U,a4,af,be,bv,ch⟩:=aB.eG id l _ ag bb;have iq:row<cells.length:=(bn.1 ab).1;have ed:l.live=true:=by
   cases jx:l.live with
   |true=>rfl
   |false=>have:=bv jx;omega
  obtain⟨_,c,T,ch,eL,fp⟩:=ch ed;refine⟨l.b,by rw[ax af,a4,kN],fun j y aD=>?_⟩;have ap:j=0:=by
   have:=(bn.1 aD).1;simp at this;omega
  subst ap;simp only[ja,aV] at aD;subst aD;exact⟨c.getD row Go.undef,by rw[km ch];exact jK (by omega),fp row x ab⟩
theorem aMX{n off:Nat}{bX:Bool}{cells:List V}{row:Nat}(h:En n bX off cells row=some v):n=1/\bX=false/\off=0/\cells[row]? =some v:=by
 unfold En at h;split at h
 . exact⟨rfl,rfl,rfl,h⟩
 . cases h
theorem UD{b o n off:Nat}{bX:Bool}{cells:List V}(h:wv w Γ b o cells)(ag:iC n bX cells off=some v):
 match bX with
 |true=>∃(xs:List V)(bl:Nat->Value),v=.agg xs/\xs.length=n/\(∀j,j<n->w.cell? ⟨b,o+off+j,none⟩=some (bl j))/\∀(j:Nat)(x:V),xs[j]? =some x->bp w Γ x (bl j)
 |false=>∃c,w.cell? ⟨b,o+off,none⟩=some c/\bp w Γ v c:=by
 unfold iC at ag;cases bX with
 |true=>
  simp only at ag;cases aw:decide (off+n<=cells.length) with
  |false=>simp[aw] at ag
  |true=>
   simp only[aw,cond_true,aV] at ag;have hle:off+n<=cells.length:=by simpa using aw
   have key:∀j,j<n->∃c,w.cell? ⟨b,o+off+j,none⟩=some c/\∀x,cells[off+j]? =some x->bp w Γ x c:=fun j ap=>by
    obtain⟨c,U,af⟩:=h (off+j) (cells[off+j]'(by omega)) (by simp);refine⟨c,by rw[kM];exact U,fun x ab=>?_⟩;rw[gd (by omega)] at ab;simp only[aV] at ab;exact ab▸af
   refine⟨(cells.drop off).take n,fun j=>if ap:j<n then(key j ap).choose else Go.undef,ag.symm,by simp;omega,fun j ap=>?_,fun j x ab=>?_⟩
   . simp only[ap,dite_true];exact(key j ap).choose_spec.1
   . have ap:j<n:=by
      have:=(bn.1 ab).1;simp at this;omega
     simp only[ap,dite_true];refine(key j ap).choose_spec.2 x ?_;rw[hs ap,kL] at ab;exact ab
 |false=>
  simp only at ag;obtain⟨c,U,af⟩:=h off v ag;exact⟨c,U,af⟩
theorem Addr.lh(b o n:Nat):(Addr.mk b o none).add n=⟨b,o+n,none⟩:=by
 unfold Addr.add;split
 . subst_vars;rfl
 . rfl
theorem UE(aB:Good w Γ M){n:Nat}{bX:Bool}{x:V}{bg:Value}(h:bp w Γ x bg)(ag:hn n bX x M=some v):
 ∃b o off cells,bg=.pointer (some ⟨b,o+off,none⟩)/\wv w Γ b o cells/\iC n bX cells off=some v:=by
 have al:=h.row aB;unfold hn at ag;split at ag
 . rename_i cells
   obtain⟨b,o,U,af⟩:=al;exact⟨b,o,0,cells,U,af,ag⟩
 . rename_i cells
   obtain⟨b,o,U,af⟩:=al;exact⟨b,o,0,cells,U,af,ag⟩
 . rename_i id off
   split at ag
   . rename_i cells bb
     obtain⟨b,U,af⟩:=al;exact⟨b,0,off,cells,by rw[U,ev],af cells bb,ag⟩
   . cases ag
 . rename_i id ver row off
   split at ag
   . rename_i z rows dV fz bb
     cases aj:dV==ver with
     |false=>simp[aj] at ag
     |true=>
      simp only[beq_iff_eq] at aj;subst aj;simp only[beq_self_eq_true,cond_true] at ag;split at ag
      . rename_i r jO
        obtain⟨b,o,U,af⟩:=al z rows fz r bb jO;exact⟨b,o,off,r,U,af,ag⟩
      . cases ag
   . rename_i cells dV bb
     cases aj:dV==ver with
     |false=>simp[aj] at ag
     |true=>
      simp only[beq_iff_eq] at aj;subst aj;simp only[beq_self_eq_true,cond_true] at ag;obtain⟨rfl,rfl,rfl,ab⟩:=aMX ag;obtain⟨b,U,af⟩:=h.aMY aB bb ab;exact⟨b,row,0,[v],U,af,rfl⟩
   . cases ag
 . cases ag
theorem UG(aB:Good w Γ M)(ak:eh w Γ s a.tmps){t:TypeId}{x:Operand}{n:Nat}{bX:Bool}{y:aU}(az:o.op=.load t x)(aK:e6 P t=some n)(bk:j4 P t=some bX)(aD:b2 x=some y)
 (h:hn n bX (aN s y) M=some v):hv P w Γ a o v:=by
 obtain⟨b,off,o',cells,ar,iq,ag⟩:=UE aB (d4 ak aD) h;have hk:=UD iq ag;cases bX with
 |true=>
  obtain⟨xs,bl,rfl,hlen,dL,al⟩:=hk;refine⟨.agg ((c1 n).map bl).toArray,.agg xs _ (by simp[hlen]) (fun j x ab=>?_),fun w' aj=>?_⟩
  . have ap:j<n:=by rw[<-hlen];exact(bn.1 ab).1
    have:=al j x ab;simpa[ih,ap] using this
  . have co:=run_loadCells (P:=P) w' ⟨b,off+o',none⟩ n bl (fun j ap=>by rw[Addr.lh];exact KM (dL j ap) aj)
    simp[execOp,az,Instr.loadAt,Instr.sureAddr,ar,loadVar,vI bk,gV aK,co]
 |false=>
  obtain⟨c,dL,al⟩:=hk;refine⟨c,al,fun w' aj=>?_⟩;simp[execOp,az,Instr.loadAt,Instr.sureAddr,ar,loadVar,vI bk,KM dL aj]
theorem U8{x:V}{bg:Value}(h:bp w Γ x bg){off:Nat}(hm:kz off x=some v):
 ∃p,bg=.pointer (some p)/\bp w Γ v (.pointer (some (p.add off))):=by
 unfold kz at hm;split at hm
 . rename_i cells
   cases aw:decide (off<=cells.length) with
   |false=>simp[aw] at hm
   |true=>
    simp only[aw,cond_true,aV] at hm;have hle:off<=cells.length:=by simpa using aw
    subst hm;cases h with
    |gC _ b o bl ak dL ax al=>
     refine⟨_,rfl,?_⟩;rw[Addr.lh];refine .gC _ b (o+off) (fun j=>bl (off+j)) (fun j ap=>?_) (fun j ap=>?_) (fun j x ab=>?_) (fun j x ab=>?_)
     . rw[kM];exact ak _ (by simp at ap;omega)
     . rw[kM];exact dL _ (by simp at ap;omega)
     . rw[kL] at ab;exact ax _ _ ab
     . rw[kL] at ab;exact al _ _ ab
 . rename_i cells
   cases aw:decide (off<=cells.length) with
   |false=>simp[aw] at hm
   |true=>
    simp only[aw,cond_true,aV] at hm;have hle:off<=cells.length:=by simpa using aw
    subst hm;cases h with
    |cN _ b o bl aK ak dL ax al=>
     refine⟨_,rfl,?_⟩;rw[Addr.lh];refine .gC _ b (o+off) (fun j=>bl (off+j)) (fun j ap=>?_) (fun j ap=>?_) (fun j x ab=>?_) (fun j x ab=>?_)
     . rw[kM];exact ak _ (by simp at ap;omega)
     . rw[kM];exact congrArg Prod.fst (dL _ (by simp at ap;omega))
     . rw[kL] at ab;exact ax _ _ ab
     . rw[kL] at ab;exact al _ _ ab
 . simp only[aV] at hm
   subst hm;cases h with
   |ptr id o l ag aj aq=>exact⟨_,rfl,by rw[Addr.lh];exact .ptr _ _ l ag aj aq⟩
 . simp only[aV] at hm
   subst hm;cases h with
   |fo id ver row o l ag aq p h=>exact⟨_,rfl,.fo _ _ _ _ l ag aq _ (fun e=>by rw[h e,Addr.lh,kM])⟩
 . cases hm
theorem aBL(ak:eh w Γ s a.tmps){t:TypeId}{x:Operand}{f:Nat}{bO:Array Field}{g:Field}{n:Nat}{y:aU}(az:o.op=.fieldAddr t x f)
 (hu:P.underlying t=some (.struct bO))(aC:bO[f]? =some g)(aK:e6 P g.type=some n)(p3:n≠0)(aD:b2 x=some y)(h:kz g.offset (aN s y)=some v):hv P w Γ a o v:=by
 obtain⟨p,ar,al⟩:=U8 (d4 ak aD) h;refine⟨_,al,fun w' _=>?_⟩;simp[execOp,az,Instr.fieldAt,ej hu,aC,Instr.sureAddr,ar,fieldPlace,gV aK,p3]
theorem aHA(ak:eh w Γ s a.tmps){t e:TypeId}{x i:Operand}{len n:Nat}{y j:aU}(az:o.op=.indexAddr t x i)
 (hu:P.underlying t=some (.array len e))(aK:e6 P e=some n)(aD:b2 x=some y)(ap:b2 i=some j)(h:pm len n (aN s y) (aN s j)=some v):hv P w Γ a o v:=by
 unfold pm at h;split at h
 . rename_i k q aG
   cases aw:(decide (0<=q)&&decide (q<(len:Int))) with
   |false=>simp[aw] at h
   |true=>
    simp only[aw,cond_true] at h;obtain⟨p,ar,al⟩:=U8 (d4 ak aD) h;have hi:=d4 ak ap;rw[aG] at hi;have hi:=kf hi;simp only[b_,decide_eq_true_eq] at aw;refine⟨_,al,fun w' _=>?_⟩;simp[execOp,az,Instr.indexAt,hi,asIntOf,ej hu,ar,Instr.sureAddr,aw,gV aK]
 . cases h
end
end Go.aQ
namespace Go.aQ
open Go.RowKit (Below)
section
variable{P:Program}{w:World}{Γ:Env}{M:Mem}{s:aH}{a:Act}{o:Oper}{v:V}
theorem fe{α:Type}{b:Bool}{x y:α}(h:(bif b then some x else none)=some y):b=true/\x=y:=by
 cases b with
 |true=>simpa using h
 |false=>simp at h
theorem qW{α:Type}{b:Bool}{x:Option α}{y:α}(h:(bif b then x else none)=some y):b=true/\x=some y:=by
 cases b with
 |true=>exact⟨rfl,by simpa using h⟩
 |false=>simp at h
theorem bp.EX(aB:Good w Γ M){id:Nat}{l:Loc}(ag:Γ.cW[id]? =some l){sz ver fz:Nat}{rows:List (List V)}(bb:M[id]? =some (.arr sz rows ver fz))(cr:rows≠[]):l.live=true:=by
 obtain⟨U,a4,af,ay,be,bv,b7,dQ,ch⟩:=aB.eG id l _ ag bb;cases jx:l.live with
 |true=>rfl
 |false=>
  have:=bv jx;have:rows.length=0:=by omega
  exact absurd (List.length_eq_zero_iff.1 this) cr
theorem aHD(aB:Good w Γ M)(ak:eh w Γ s a.tmps){t e:TypeId}{x i:Operand}{n:Nat}{y j:aU}(az:o.op=.indexAddr t x i)
 (hu:P.underlying t=some (.slice e))(aK:e6 P e=some n)(aD:b2 x=some y)(ap:b2 i=some j)(h:jj n (aN s y) (aN s j) M=some v):hv P w Γ a o v:=by
 have ab:=d4 ak aD;have hi:=d4 ak ap;unfold jj at h;split at h
 . rename_i k q aG
   rw[aG] at hi;have hi:=kf hi;cases aw:decide (0<=q) with
   |false=>simp[aw] at h
   |true=>
    have xy:0<=q:=by simpa using aw
    simp only[aw,cond_true] at h;split at h
    . rename_i rows c sv
      rw[sv] at ab;split at h
      . rename_i r al
        obtain⟨n8,rfl⟩:=fe h;have n8:r.length=n:=by simpa using n8
        have bw:q.toNat<rows.length:=(bn.1 al).1;generalize d7:a.eval x=bg at ab;cases ab with
        |iE=>simp at bw
        |lE=>simp at bw
        |slice _ _ b of sz cap bl ar aC fZ fP bh dL ax fS=>
         have Dc:sz=n:=by rw[<-n8];exact(fP _ _ al).symm
         subst Dc;refine⟨.pointer (some ⟨b,of+q.toNat*sz,none⟩),?_,fun w' _=>?_⟩
         . refine .gC r b _ (fun j=>bl q.toNat j) (fun j ap=>?_) (fun j ap=>?_) (fun j x ab=>ax _ _ _ _ al ab) (fun j x ab=>fS _ _ _ _ al ab)
           . rw[kM];exact bh _ _ bw (by omega)
           . rw[kM];exact dL _ _ bw (by omega)
         . have:q<(rows.length:Int):=by omega
           simp[execOp,az,Instr.indexAt,hi,asIntOf,ej hu,d7,xy,this,gV aK,Addr.lh]
      . cases h
    . rename_i id ver start len xp
      rw[xp] at ab;split at h
      . rename_i z rows dV fz bb
        obtain⟨aj,rfl⟩:=fe h;simp only[b_,beq_iff_eq,decide_eq_true_eq] at aj;obtain⟨⟨⟨a7,aq⟩,bw⟩,hle⟩:=aj;generalize d7:a.eval x=bg at ab;cases ab with
        |aX _ _ _ _ l ag hF _ eF ar=>
         obtain⟨U,a4,af,ay,be,bv,b7,dQ,ch⟩:=aB.eG id l _ ag bb;have ed:l.live=true:=bp.EX aB ag bb (by rintro rfl;simp at hle;omega);rcases eF (by rw[af,aq]) with⟨aw,_⟩|⟨_,fZ,of,h6,rfl,iT,hk,gz⟩
         . rw[ed] at aw;cases aw
         . have gz:=gz (by omega)
           subst gz;have MQ:l.sz=n:=by rw[a4,a7]
           refine⟨.pointer (some ⟨l.b,start*l.sz+q.toNat*n,none⟩),?_,fun w' _=>?_⟩
           . refine .fo _ _ _ _ l ag hF _ (fun _=>?_)
             rw[MQ,ik,iJ]
           . have:q<(len:Int):=by omega
             simp[execOp,az,Instr.indexAt,hi,asIntOf,ej hu,d7,xy,this,gV aK,Addr.lh]
      . rename_i cells dV bb
        obtain⟨aj,rfl⟩:=fe h;simp only[b_,beq_iff_eq,decide_eq_true_eq] at aj;obtain⟨⟨⟨a7,aq⟩,bw⟩,hle⟩:=aj;generalize d7:a.eval x=bg at ab;cases ab with
        |aX _ _ _ _ l ag hF _ eF ar=>
         obtain⟨U,a4,af,be,bv,ch⟩:=aB.eG id l _ ag bb;have ed:l.live=true:=by
          cases jx:l.live with
          |true=>rfl
          |false=>have:=bv jx;omega
         rcases eF (by rw[af,aq]) with⟨aw,_⟩|⟨_,fZ,of,h6,rfl,iT,hk,gz⟩
         . rw[ed] at aw;cases aw
         . have gz:=gz (by omega)
           subst gz;have MQ:l.sz=n:=by rw[a4,a7]
           refine⟨.pointer (some ⟨l.b,start*l.sz+q.toNat*n,none⟩),?_,fun w' _=>?_⟩
           . refine .fo _ _ _ _ l ag hF _ (fun _=>?_)
             rw[MQ,ik,iJ]
           . have:q<(len:Int):=by omega
             simp[execOp,az,Instr.indexAt,hi,asIntOf,ej hu,d7,xy,this,gV aK,Addr.lh]
      . cases h
    . cases h
 . cases h
theorem aHH(ak:eh w Γ s a.tmps){t:TypeId}{x i:Operand}{y j:aU}(az:o.op=.index t x i)
 (hu:P.underlying t=some .string)(aD:b2 x=some y)(ap:b2 i=some j)(h:vG (aN s y) (aN s j)=some v):hv P w Γ a o v:=by
 have ab:=d4 ak aD;have hi:=d4 ak ap;unfold vG at h;split at h
 . rename_i b k q aj aG
   rw[aG] at hi;rw[aj] at ab;have hi:=kf hi;have ab:=rF ab;cases aw:decide (0<=q) with
   |false=>simp[aw] at h
   |true=>
    have xy:0<=q:=by simpa using aw
    simp only[aw,cond_true] at h;split at h
    . rename_i u n_
      simp only[aV] at h;subst h;refine⟨_,.int .u8 _,fun w' _=>?_⟩;have bw:q.toNat<b.length:=(bn.1 n_).1;have gr:(rU b.toArray)[q.toNat]? =some u:=by
       have fP:q.toNat<(rU b.toArray).size:=by simpa[ByteArray.size] using bw
       rw[getElem?_pos (rU b.toArray) q.toNat fP];have:(rU b.toArray)[q.toNat]'fP=b[q.toNat]:=by rfl
       rw[this,<-n_,gd bw]
      simp[execOp,az,Instr.index,hi,asIntOf,ej hu,ab,xy,gr]
    . cases h
 . cases h
theorem Vq{t:TypeId}{n off:Nat}{bX:Bool}{xs:List V}{cs:Array Value}(aK:e6 P t=some n)(bk:j4 P t=some bX)(al:ef w Γ xs cs)(h:iC n bX xs off=some v):
 ∃bl,bp w Γ v bl/\∀w',(part t cs off).run P w'=.ok bl w':=by
 unfold iC at h;cases bX with
 |true=>
  obtain⟨aw,rfl⟩:=fe h;have hle:off+n<=xs.length:=by simpa using aw
  refine⟨.agg (cs.extract off (off+n)),.agg _ _ (by simp[al.1];omega) (fun j x ab=>?_),fun w'=>by simp[part,vI bk,gV aK]⟩;have ap:j<n:=by
   have:=(bn.1 ab).1;simp at this;omega
  rw[hs ap,kL] at ab;have:=al.2 _ _ ab;have bw:off+j<cs.size:=by rw[al.1];omega
  simpa[ih,bw,show off+j<min (off+n) cs.size from by omega,Array.getElem?_extract,show j<min (off+n) cs.size -off from by omega] using this
 |false=>
  have:=al.2 _ _ h;have bw:off<cs.size:=by rw[al.1];exact(bn.1 h).1
  exact⟨_,this,fun w'=>by simp[part,vI bk,bw]⟩
theorem aBN(ak:eh w Γ s a.tmps){t:TypeId}{x:Operand}{f n:Nat}{bX:Bool}{bO:Array Field}{g:Field}{y:aU}(az:o.op=.field t x f)
 (hu:P.underlying t=some (.struct bO))(aC:bO[f]? =some g)(aK:e6 P g.type=some n)(bk:j4 P g.type=some bX)(aD:b2 x=some y)(h:wZ g.offset n bX (aN s y)=some v):hv P w Γ a o v:=by
 have ab:=d4 ak aD;unfold wZ at h;split at h
 . rename_i cells ar
   rw[ar] at ab;generalize d7:a.eval x=bg at ab;cases ab with
   |agg _ cs ag al=>
    obtain⟨bl,U,af⟩:=Vq aK bk ⟨ag,al⟩ h;exact⟨bl,U,fun w' _=>by simp[execOp,az,Instr.field,ej hu,aC,d7,asAgg,af]⟩
 . cases h
theorem aHG(ak:eh w Γ s a.tmps){t e:TypeId}{x i:Operand}{len n:Nat}{bX:Bool}{y j:aU}(az:o.op=.index t x i)
 (hu:P.underlying t=some (.array len e))(aK:e6 P e=some n)(bk:j4 P e=some bX)(aD:b2 x=some y)(ap:b2 i=some j)(h:z5 len n bX (aN s y) (aN s j)=some v):hv P w Γ a o v:=by
 have ab:=d4 ak aD;have hi:=d4 ak ap;unfold z5 at h;split at h
 . rename_i cells k q ar aG
   rw[ar] at ab;rw[aG] at hi;have hi:=kf hi;cases aw:(decide (0<=q)&&decide (q<(len:Int))) with
   |false=>simp[aw] at h
   |true=>
    simp only[aw,cond_true] at h;simp only[b_,decide_eq_true_eq] at aw;generalize d7:a.eval x=bg at ab;cases ab with
    |agg _ cs ag al=>
     obtain⟨bl,U,af⟩:=Vq aK bk ⟨ag,al⟩ h;exact⟨bl,U,fun w' _=>by simp[execOp,az,Instr.index,hi,asIntOf,ej hu,d7,aw,gV aK,af]⟩
 . cases h
theorem aJF(ak:eh w Γ s a.tmps){x:Operand}{y:aU}(az:o.op=.nilCheck x)(aD:b2 x=some y)(h:m4 (aN s y)=some v):hv P w Γ a o v:=by
 have ab:=d4 ak aD;obtain⟨aw,rfl⟩:=fe h;refine⟨_,ab,fun w' _=>?_⟩;generalize d7:a.eval x=bg at ab;generalize aN s y=z at ab aw;cases ab<;>first|(cases aw;done)|(simp only[execOp,az,d7];rfl)
theorem aJj(ak:eh w Γ s a.tmps){f:Nat}{first da:Array Operand}{bG:List aU}(az:o.op=.makeFunc (.func f) first da)(Mb:first.isEmpty=true)(aD:sD da.toList=some bG):hv P w Γ a o (x6 f (e9 s bG)):=by
 obtain⟨ag,al⟩:=Jk ak aD;have CO:first=#[]:=by simpa using Mb
 have aEo:∀xs:List V,hy xs=true->∀(j:Nat)(x:V),xs[j]? =some x->x.kd=true:=by
  intro xs;induction xs with
  |nil=>intro _ j x ab;simp at ab
  |cons z lG bq=>
   intro ax j x ab;simp only[hy,b_] at ax;cases j with
   |zero=>simp at ab;exact ab▸ax.1
   |succ j=>exact bq ax.2 j x (by simpa using ab)
 subst CO;refine⟨.func (.func f) #[] (da.map a.eval),?_,fun w' _=>by simp only[execOp,az,Instr.makeFunc];simp⟩;unfold x6;have e:(da.toList.map a.eval).toArray=da.map a.eval:=Array.ext' (by simp);rw[e] at ag al;cases ax:hy (e9 s bG) with
 |true=>exact .dH _ _ _ ag (aEo _ ax) al
 |false=>exact .fn _ _ _ ag al
theorem aAt(ak:eh w Γ s a.tmps){src dst:TypeId}{x:Operand}{y:aU}{k dj:IntKind}(az:o.op=.convert src dst x)(hu:P.underlying src=some (.int dj))(aw:P.underlying dst=some (.int k))(aD:b2 x=some y)
 (h:uP k (aN s y)=some v):hv P w Γ a o v:=by
 have ab:=d4 ak aD;unfold uP at h;split at h
 . rename_i q n aG
   rw[aG] at ab;have ab:=kf ab;simp only[aV] at h;subst h;exact⟨_,.int _ _,fun w' _=>by simp[execOp,az,convert,ej hu,ej aw,ab,Conv.intToInt]⟩
 . cases h
theorem aAs(ak:eh w Γ s a.tmps){src dst:TypeId}{x:Operand}{y:aU}(az:o.op=.convert src dst x)(hu:P.underlying src=some .string)(aw:P.underlying dst=some .string)(aD:b2 x=some y)
 (h:y0 (aN s y)=some v):hv P w Γ a o v:=by
 have ab:=d4 ak aD;unfold y0 at h;split at h
 . rename_i b aG
   rw[aG] at ab;have ab:=rF ab;simp only[aV] at h;subst h;exact⟨_,.str _,fun w' _=>by simp[execOp,az,convert,ej hu,ej aw,ab]⟩
 . cases h
theorem aBx(ak:eh w Γ s a.tmps){x:Operand}{i:Nat}{y:aU}(az:o.op=.extract x i)(aD:b2 x=some y)(h:wX (aN s y) i=some v):hv P w Γ a o v:=by
 have ab:=d4 ak aD;unfold wX at h;split at h
 . rename_i vs aq
   rw[aq] at ab;generalize d7:a.eval x=bg at ab;cases ab with
   |tuple _ bl ag al=>
    have bw:i<bl.size:=by rw[ag];exact(bn.1 h).1
    exact⟨_,al _ _ h,fun w' _=>by simp[execOp,az,Instr.extract,d7,bw]⟩
 . cases h
theorem aMJ(ak:eh w Γ s a.tmps){op:UnOp}{t:TypeId}{x:Operand}{y:aU}(az:o.op=.unOp op t x)(aD:b2 x=some y)(h:v9 op (aN s y)=some v):hv P w Γ a o v:=by
 have ab:=d4 ak aD;unfold v9 at h;split at h
 . rename_i k n aG
   rw[aG] at ab;have ab:=kf ab;simp only[aV] at h;subst h;exact⟨_,.int _ _,fun w' _=>by simp[execOp,az,Op.unary,ab,Op.intArith]⟩
 . rename_i k n aG
   rw[aG] at ab;have ab:=kf ab;simp only[qP,aV] at h;subst h;exact⟨_,.int _ _,fun w' _=>by simp[execOp,az,Op.unary,ab,Op.intBits]⟩
 . rename_i b aG
   rw[aG] at ab;have ab:=qs ab rfl;simp only[aV] at h;subst h;exact⟨_,.bool _,fun w' _=>by simp[execOp,az,Op.unary,ab]⟩
 . cases h
end
end Go.aQ
namespace Go.aQ
open Go.RowKit (Below)
section
variable{P:Program}{w:World}{Γ:Env}{M:Mem}{s:aH}{a:Act}{o:Oper}{v:V}
def AK(P:Program)(op:BinOp)(t:TypeId)(bg dd r:Value):Prop:=
 ∀(w':World)(x y:Operand),(do eqGuard op t x y bg dd;binOp op t bg dd:Sem Value).run P w'=.ok r w'
theorem wA{α:Type}[BEq α][LawfulBEq α][DecidableEq α](x y:α):(x==y)=decide (x=y):=by
 rw[Bool.eq_iff_iff];simp
theorem tu(op:BinOp)(t:TypeId)(x y:Operand)(bg dd:Value)(U:¬(bg matches .nilIface))(af:¬(bg matches .agg _))(w':World):(eqGuard op t x y bg dd).run P w'=.ok () w':=by
 cases op<;>cases bg<;>first|(exfalso;exact U rfl)|(exfalso;exact af rfl)|(simp[eqGuard];done)|(cases dd<;>simp[eqGuard])
theorem abj{op:BinOp}{t:TypeId}{k dj:IntKind}{x y:Int}{kn:iK}(h:dB op kn (.int k x) (.int dj y)=some v):∃r,bp w Γ v r/\AK P op t (.int k x) (.int dj y) r:=by
 have g:∀(w':World)(p q:Operand),(eqGuard op t p q (.int k x) (.int dj y)).run P w'=.ok () w':=fun w' p q=>tu op t p q _ _ (by simp) (by simp) w';by_cases ao:k=dj
 . subst ao
   cases op
   case shl=>
    simp only[dB,ox] at h;cases aw:decide (y<0) with
    |true=>simp[aw] at h
    |false=>
     simp only[aw,cond_false,aV] at h;subst h;refine⟨_,.int _ _,fun w' p q=>?_⟩;have:¬y<0:=by simpa using aw
     simp[g,binOp,Op.shift,this]
   case shr=>
    simp only[dB,ox] at h;cases aw:decide (y<0) with
    |true=>simp[aw] at h
    |false=>
     simp only[aw,cond_false,aV] at h;subst h;refine⟨_,.int _ _,fun w' p q=>?_⟩;have:¬y<0:=by simpa using aw
     simp[g,binOp,Op.shift,this]
   case quo=>
    simp only[dB,kQ,decide_true,cond_true] at h;cases aw:decide (y=0) with
    |true=>simp[aw] at h
    |false=>
     simp only[aw,cond_false,aV] at h;subst h;refine⟨_,.int _ _,fun w' p q=>?_⟩;have:¬y=0:=by simpa using aw
     simp[g,binOp,Op.intDiv,this]
   case rem=>
    simp only[dB,kQ,decide_true,cond_true] at h;cases aw:decide (y=0) with
    |true=>simp[aw] at h
    |false=>
     simp only[aw,cond_false,aV] at h;subst h;refine⟨_,.int _ _,fun w' p q=>?_⟩;have:¬y=0:=by simpa using aw
     simp[g,binOp,Op.intDiv,this]
   case eql=>
    simp only[dB,kQ,decide_true,cond_true,aV] at h;subst h;exact⟨_,.bool _,fun w' p q=>by simp[g,binOp,Op.intCmp,wA]⟩
   case neq=>
    simp only[dB,kQ,decide_true,cond_true,aV] at h;subst h;exact⟨_,.bool _,fun w' p q=>by simp[g,binOp,Op.intCmp,bne,wA]⟩
   all_goals
    simp only[dB,kQ,qP,decide_true,cond_true,aV] at h;subst h;first
     |exact⟨_,.bool _,fun w' p q=>by simp[g,binOp,Op.intCmp]⟩
     |exact⟨_,.int _ _,fun w' p q=>by simp[g,binOp,Op.intArith,Op.intBits]⟩
 . cases op
   case shl=>
    simp only[dB,ox] at h;cases aw:decide (y<0) with
    |true=>simp[aw] at h
    |false=>
     simp only[aw,cond_false,aV] at h;subst h;refine⟨_,.int _ _,fun w' p q=>?_⟩;have:¬y<0:=by simpa using aw
     simp[g,binOp,Op.shift,this]
   case shr=>
    simp only[dB,ox] at h;cases aw:decide (y<0) with
    |true=>simp[aw] at h
    |false=>
     simp only[aw,cond_false,aV] at h;subst h;refine⟨_,.int _ _,fun w' p q=>?_⟩;have:¬y<0:=by simpa using aw
     simp[g,binOp,Op.shift,this]
   all_goals simp[dB,ao] at h
theorem abs{op:BinOp}{t:TypeId}{x y:List UInt8}{kn:iK}(h:dB op kn (.str x) (.str y)=some v):∃r,bp w Γ v r/\AK P op t (.string ⟨x.toArray⟩) (.string ⟨y.toArray⟩) r:=by
 have g:∀(w':World)(p q:Operand),(eqGuard op t p q (.string ⟨x.toArray⟩) (.string ⟨y.toArray⟩)).run P w'=.ok () w':=fun w' p q=>tu op t p q _ _ (by simp) (by simp) w';simp only[dB] at h;cases op<;>simp only[PS,aV,reduceCtorEq] at h
 case add=>
  obtain⟨aw,rfl⟩:=fe h;have hle:((x.length+y.length:Nat):Int)<=9223372036854775807:=by simpa using aw
  refine⟨.string ⟨(x++y).toArray⟩,.str _,fun w' p q=>?_⟩;have e:(rU x.toArray)++(rU y.toArray)=⟨(x++y).toArray⟩:=by
   apply ByteArray.ext;simp
  have e3:((rU x.toArray).size:Int)+((rU y.toArray).size:Int)<=9223372036854775807:=by
   simp only[ByteArray.size];simp;omega
  simp[g,binOp,Op.stringOp,e,e3]
 all_goals
  subst h;exact⟨_,.bool _,fun w' p q=>by simp[g,binOp,Op.stringOp,wA]⟩
theorem wS(t:TypeId)(x y:Value)(w':World):(Op.equal t x y).run P w'=(Op.equalIn (9999+1) t x y).run P w':=rfl
theorem wR{op:BinOp}{t:TypeId}{bg dd:Value}{b:Bool}(g5:op=.eql∨op=.neq)
 (aB:∀(w':World)(p q:Operand),(eqGuard op t p q bg dd).run P w'=.ok () w')(he:∀w':World,(Op.equalIn (9999+1) t bg dd).run P w'=.ok b w')
 (aj:binOp .eql t bg dd=(do pure (.bool (<-Op.equal t bg dd))))(mh:binOp .neq t bg dd=(do pure (.bool (!(<-Op.equal t bg dd))))):
 AK P op t bg dd (.bool (if op=.eql then b else !b)):=fun w' p q=>by
 rcases g5 with rfl|rfl
 . rw[aj];simp[aB,wS,he]
 . rw[mh];simp[aB,wS,he]
theorem SV(op:BinOp)(t:TypeId)(x y:Operand)(xs bG:Array Value)(hm:P.eqGuardType P.depth t=false)(w':World):(eqGuard op t x y (.agg xs) (.agg bG)).run P w'=.ok () w':=by
 cases op<;>simp[eqGuard,hm]
theorem MZ{f:TypeId}{c:fx}(aC:l4 P f=some c){x y:V}{bg dd:Value}(ab:bp w Γ x bg)(aD:bp w Γ y dd){b:Bool}(h:hA c x y=some b)(d:Nat)(w':World):(Op.equalIn (d+1) f bg dd).run P w'=.ok b w':=by
 unfold hA at h;split at h
 . rename_i k m dj n
   obtain⟨ao,rfl⟩:=fe h;have ao:k=dj:=by simpa using ao
   subst ao;have ab:=kf ab;have aD:=kf aD;subst ab aD;unfold l4 at aC;split at aC<;>simp only[aV,reduceCtorEq] at aC;rename_i hu;rw[run_equalIn_int w' d f k _ m n hu,wA]
 . rename_i m n
   simp only[aV] at h;subst h;have ab:=qs ab rfl;have aD:=qs aD rfl;subst ab aD;unfold l4 at aC;split at aC<;>simp only[aV,reduceCtorEq] at aC;rename_i hu;rw[run_equalIn_bool' w' d f m n hu,wA]
 . rename_i m n
   simp only[aV] at h;subst h;have ab:=rF ab;have aD:=rF aD;subst ab aD;unfold l4 at aC;split at aC<;>simp only[aV,reduceCtorEq] at aC;rename_i hu;rw[run_equalIn_string w' d f _ _ hu];simp[wA]
 . cases h
theorem sG{t:TypeId}(bk:j4 P t=some false){xs:List V}{cs:Array Value}(al:ef w Γ xs cs){n:Nat}{x:V}(ab:xs[n]? =some x)(w':World):(part t cs n).run P w'=.ok (cs.getD n Go.undef) w':=by
 have bw:n<cs.size:=by rw[al.1];exact(bn.1 ab).1
 simp[part,vI bk,bw]
theorem wI{c:fx}{cs:List fx}{xs bG:List V}{b:Bool}(h:gw (c::cs) xs bG=some b):
 ∃x nU y nd c4 dF,xs=x::nU/\bG=y::nd/\hA c x y=some c4/\gw cs nU nd=some dF/\b=(c4&&dF):=by
 unfold gw at h;split at h
 . rename_i heq;cases heq
 . rename_i c0 aAv x nU y nd heq
   cases heq;split at h
   . rename_i c4 dF U af
     simp only[aV] at h;exact⟨_,_,_,_,c4,dF,rfl,rfl,U,af,h.symm⟩
   . cases h
 . cases h
theorem Le(d:Nat){xs bG:List V}{bg dd:Array Value}(ab:ef w Γ xs bg)(aD:ef w Γ bG dd)(w':World):∀(bO:List Field)(n:Nat)(cu:List fx)(b:Bool),sO P n bO=some cu->gw cu (xs.drop n) (bG.drop n)=some b->
 (Op.eqFields (d+1) bg dd bO).run P w'=.ok b w'
 |[],n,cu,b,aC,h=>by
  simp only[sO,aV] at aC;subst aC;simp only[gw,aV] at h;subst h;simp[Op.eqFields]
 |f::bO,n,cu,b,aC,h=>by
  simp only[sO] at aC;split at aC
  . rename_i k og ao hD o3
    split at aC<;>simp only[aV,reduceCtorEq] at aC;rename_i pb;simp only[b_,bne_iff_ne,ne_eq,beq_iff_eq] at pb;subst aC;obtain⟨x,nU,y,nd,c4,dF,a6,ba,U,af,rfl⟩:=wI h;have aW:xs[n]? =some x:=by have:=congrArg (·[0]?) a6;simpa using this
    have a9:bG[n]? =some y:=by have:=congrArg (·[0]?) ba;simpa using this
    have d1:xs.drop (n+1)=nU:=by have:=congrArg (List.drop 1) a6;simpa[Nat.add_comm] using this
    have d2:bG.drop (n+1)=nd:=by have:=congrArg (List.drop 1) ba;simpa[Nat.add_comm] using this
    have bq:=Le d ab aD w' bO (n+1) og dF o3 (by rw[d1,d2];exact af);have iV:=MZ ao (ab.2 _ _ aW) (aD.2 _ _ a9) U d w';simp only[Op.eqFields,pb,ne_eq,not_false_eq_true,if_true,Sem.run_bind,sG hD ab aW,sG hD aD a9,Result.andThen_ok,iV,Sem.run_ite,bq];cases c4<;>simp
  . cases aC
theorem aBe{t:TypeId}{bO:Array Field}(hu:P.underlying t=some (.struct bO))(ax:P.stoodInHeld t=false){cu:List fx}(aC:sO P 0 bO.toList=some cu){xs bG:List V}{bg dd:Array Value}(ab:ef w Γ xs bg)(aD:ef w Γ bG dd)
 {b:Bool}(h:gw cu xs bG=some b)(w':World):(Op.equalIn (9999+1) t (.agg bg) (.agg dd)).run P w'=.ok b w':=by
 have e:P.fieldsOf t=bO:=by simp[Program.fieldsOf,hu]
 rw[run_equalIn_struct w' 9999 t bg dd (by rw[e];exact hu) ax,e];exact Le 9998 ab aD w' bO.toList 0 cu b aC (by simpa using h)
theorem Q3{e:TypeId}{k:fx}(ao:l4 P e=some k)(hD:j4 P e=some false)(d:Nat){xs bG:List V}{bg dd:Array Value}(ab:ef w Γ xs bg)(aD:ef w Γ bG dd)(w':World):
 ∀(m n:Nat)(b:Bool),gw (fV m k) (xs.drop n) (bG.drop n)=some b->
 ((forIn (List.range' n m) ((none,()):Option Bool×Unit) fun i r=>do
    if !(<-Op.equalIn (d+1) e (<-part e bg (i*1)) (<-part e dd (i*1))) then pure (ForInStep.done (some false,()))
    else pure (ForInStep.yield (none,())):Sem (Option Bool×Unit))).run P w'=.ok (if b then(none,()) else(some false,())) w'
 |0,n,b,h=>by
  simp only[List.replicate_zero,gw,aV] at h;subst h;simp
 |m+1,n,b,h=>by
  obtain⟨x,nU,y,nd,c4,dF,a6,ba,U,af,rfl⟩:=wI (by rw[<-List.replicate_succ];exact h);have aW:xs[n]? =some x:=by have:=congrArg (·[0]?) a6;simpa using this
  have a9:bG[n]? =some y:=by have:=congrArg (·[0]?) ba;simpa using this
  have d1:xs.drop (n+1)=nU:=by have:=congrArg (List.drop 1) a6;simpa[Nat.add_comm] using this
  have d2:bG.drop (n+1)=nd:=by have:=congrArg (List.drop 1) ba;simpa[Nat.add_comm] using this
  have bq:=Q3 ao hD d ab aD w' m (n+1) dF (by rw[d1,d2];exact af);have iV:=MZ ao (ab.2 _ _ aW) (aD.2 _ _ a9) U d w';rw[List.range'_succ,List.forIn_cons];simp only[Sem.run_bind,kN,sG hD ab aW,sG hD aD a9,Result.andThen_ok,iV,Sem.run_ite];cases c4
  . simp
  . simpa using bq
theorem aBd(d:Nat){t e:TypeId}{len:Nat}(hu:P.underlying t=some (.array len e)){k:fx}(ao:l4 P e=some k)(hD:j4 P e=some false)(aK:e6 P e=some 1){xs bG:List V}{bg dd:Array Value}(ab:ef w Γ xs bg)(aD:ef w Γ bG dd)
 {b:Bool}(h:gw (fV len k) xs bG=some b)(w':World):(Op.equalIn (d+1+1) t (.agg bg) (.agg dd)).run P w'=.ok b w':=by
 have:=Q3 ao hD d ab aD w' len 0 b (by simpa using h);rw[Op.equalIn];simp only[Sem.run_bind,ej hu,Result.andThen_ok,gV aK];rw[Std.Legacy.Range.forIn_eq_forIn_range'];have gm:[:len].size=len:=by simp[Std.Legacy.Range.size]
 rw[gm];show((Sem.run P (forIn (List.range' 0 len) (none,()) _) w').andThen _)=_;rw[this];cases b<;>simp
theorem Q2{t e:TypeId}{len:Nat}(hu:P.underlying t=some (.array len e)){k:fx}(ao:l4 P e=some k)(hD:j4 P e=some false)(aK:e6 P e=some 1){xs bG:List V}{bg dd:Array Value}(ab:ef w Γ xs bg)(aD:ef w Γ bG dd)
 {b:Bool}(h:gw (fV len k) xs bG=some b)(w':World):(Op.equalIn (9999+1) t (.agg bg) (.agg dd)).run P w'=.ok b w':=aBd 9998 hu ao hD aK ab aD h w'
theorem No{r:List (List V)}{bg:Value}(ab:bp w Γ (.slice r .nil) bg):bg=.slice none 0 0:=by
 cases ab with
 |iE=>rfl
 |lE _ ar=>exact absurd rfl ar
 |slice _ _ b o sz cap bl ar=>exact absurd rfl ar
theorem Nq{r:List (List V)}{c:c3}{bg:Value}(ab:bp w Γ (.slice r c) bg)(h:c=.full∨c=.any∨r≠[]):∃p n d,bg=.slice (some p) n d:=by
 cases ab with
 |iE _ ar=>
  rcases h with h|h|h
  . subst h;simp at ar
  . subst h;simp at ar
  . exact absurd rfl h
 |lE=>exact⟨_,_,_,rfl⟩
 |slice _ _ b o sz cap bl ar=>exact⟨_,_,_,rfl⟩
theorem Wg{y:V}{dd:Value}(aD:bp w Γ y dd){b:Bool}(h:iE y=some b):∃p n c,dd=.slice p n c/\p.isNone=b:=by
 unfold iE at h;split at h<;>simp only[aV,reduceCtorEq] at h<;>subst h
 . exact⟨_,_,_,No aD,rfl⟩
 . obtain⟨p,n,d,e⟩:=Nq aD (.inl rfl);exact⟨_,_,_,e,rfl⟩
 . obtain⟨p,n,d,e⟩:=Nq aD (.inr (.inl rfl));exact⟨_,_,_,e,rfl⟩
 . obtain⟨p,n,d,e⟩:=Nq aD (.inr (.inr (by simp)));exact⟨_,_,_,e,rfl⟩
theorem Q1{t:TypeId}{x y:V}{bg dd:Value}(ab:bp w Γ x bg)(aD:bp w Γ y dd){b:Bool}(h:lr x y (y6 P t)=some b){op:BinOp}(g5:op=.eql∨op=.neq):
 AK P op t bg dd (.bool (if op=.eql then b else !b)):=by
 unfold y6 at h;split at h
 . rename_i hu
   simp only[lr] at h;split at h<;>simp only[aV,reduceCtorEq] at h;rename_i m n;subst h;have ab:=qs ab rfl;have aD:=qs aD rfl;subst ab aD;refine wR g5 (fun w' p q=>tu op t p q _ _ (by simp) (by simp) w') (fun w'=>?_) rfl rfl;rw[run_equalIn_bool' w' 9999 t m n hu,wA]
 . rename_i e hu
   simp only[lr] at h;have key:∀w':World,(Op.equalIn (9999+1) t bg dd).run P w'=.ok b w':=by
    intro w';split at h<;>simp only[aV,reduceCtorEq] at h<;>subst h<;>cases ab<;>cases aD<;>(rw[Op.equalIn];simp[ej hu])
   refine wR g5 (fun w' p q=>tu op t p q _ _ ?_ ?_ w') key ?_ ?_;all_goals (split at h<;>simp only[aV,reduceCtorEq] at h<;>cases ab<;>cases aD<;>first|rfl|simp)
 . rename_i e hu
   simp only[lr] at h;have aq:∃p n c q m d,bg=.slice p n c/\dd=.slice q m d/\((p=none/\b=q.isNone)∨(q=none/\b=p.isNone)):=by
    split at h
    . obtain⟨q,m,d,a6,ba⟩:=Wg aD h
      exact⟨none,0,0,q,m,d,No ab,a6,.inl ⟨rfl,ba.symm⟩⟩
    . obtain⟨q,m,d,a6,ba⟩:=Wg ab h
      exact⟨q,m,d,none,0,0,a6,No aD,.inr ⟨rfl,ba.symm⟩⟩
    . cases h
   obtain⟨p,n,c,q,m,d,rfl,rfl,aj⟩:=aq;refine wR g5 (fun w' p q=>tu op t p q _ _ (by simp) (by simp) w') (fun w'=>?_) rfl rfl;rw[Op.equalIn];rcases aj with⟨rfl,rfl⟩|⟨rfl,rfl⟩
   . simp[ej hu]
   . cases p<;>simp[ej hu]
 . rename_i k e hu
   simp only[lr] at h;have key:∀w':World,(Op.equalIn (9999+1) t bg dd).run P w'=.ok b w':=by
    intro w';split at h<;>simp only[aV,reduceCtorEq] at h<;>subst h<;>cases ab<;>cases aD<;>(rw[Op.equalIn];simp[ej hu])
   refine wR g5 (fun w' p q=>tu op t p q _ _ ?_ ?_ w') key ?_ ?_;all_goals (split at h<;>simp only[aV,reduceCtorEq] at h<;>cases ab<;>cases aD<;>first|rfl|simp)
 . rename_i cP rs yx hu
   simp only[lr] at h;have key:∀w':World,(Op.equalIn (9999+1) t bg dd).run P w'=.ok b w':=by
    intro w';split at h<;>simp only[aV,reduceCtorEq] at h<;>subst h<;>cases ab<;>cases aD<;>(rw[Op.equalIn];simp[ej hu])
   refine wR g5 (fun w' p q=>tu op t p q _ _ ?_ ?_ w') key ?_ ?_;all_goals (split at h<;>simp only[aV,reduceCtorEq] at h<;>cases ab<;>cases aD<;>first|rfl|simp)
 . rename_i bO hu
   split at h
   . rename_i cu zy
     split at h
     . rename_i ar
       simp only[b_,lH] at ar;simp only[lr] at h;split at h
       . cases ab with
         |agg _ bg tL pj=>
          cases aD with
          |agg _ dd xn p6=>exact wR g5 (fun w' p q=>SV op t p q _ _ ar.2 w') (fun w'=>aBe hu ar.1 zy ⟨tL,pj⟩ ⟨xn,p6⟩ h w') rfl rfl
       . cases h
     . simp[lr] at h
   . simp[lr] at h
 . rename_i n e hu
   split at h
   . rename_i k ao hD
     split at h
     . rename_i ar
       simp only[b_,lH,beq_iff_eq] at ar;simp only[lr] at h;split at h
       . cases ab with
         |agg _ bg tL pj=>
          cases aD with
          |agg _ dd xn p6=>exact wR g5 (fun w' p q=>SV op t p q _ _ ar.2 w') (fun w'=>Q2 hu ao hD ar.1 ⟨tL,pj⟩ ⟨xn,p6⟩ h w') rfl rfl
       . cases h
     . simp[lr] at h
   . simp[lr] at h
 . simp[lr] at h
end
end Go.aQ
namespace Go.aQ
open Go.RowKit (Below)
section
variable{P:Program}{w:World}{Γ:Env}{M:Mem}{s:aH}{a:Act}{o:Oper}{v:V}
theorem aa9{op:BinOp}{kn:iK}{x y:V}(U:∀k n dj m,¬(x=.int k n/\y=.int dj m))(af:∀l m,¬(x=.str l/\y=.str m)):
 dB op kn x y=(match op with|.eql=>(lr x y kn).map .bool|.neq=>(lr x y kn).map fun b=>.bool !b|_=>none):=by
 unfold dB;split
 . exact absurd ⟨rfl,rfl⟩ (U _ _ _ _)
 . exact absurd ⟨rfl,rfl⟩ (af _ _)
 . cases op<;>rfl
theorem abo(ak:eh w Γ s a.tmps){op:BinOp}{t gD:TypeId}{x y:Operand}{df g8:aU}(az:o.op=.binOp op t x y gD)(ab:b2 x=some df)(aD:b2 y=some g8)
 (h:dB op (y6 P t) (aN s df) (aN s g8)=some v):hv P w Γ a o v:=by
 have rx:=d4 ak ab;have hN:=d4 ak aD
 suffices al:∃r,bp w Γ v r/\AK P op t (a.eval x) (a.eval y) r by
  obtain⟨r,U,af⟩:=al;refine⟨r,U,fun w' _=>?_⟩;have:=af w' x y;simp only[execOp,az,Sem.run_bind] at this⊢;rw[this];simp
 generalize a.eval x=bg at rx;generalize a.eval y=dd at hN;generalize aN s df=p at*;generalize aN s g8=q at*;by_cases U:∃k n dj m,p=.int k n/\q=.int dj m
 . obtain⟨k,n,dj,m,rfl,rfl⟩:=U
   have:=kf rx;have:=kf hN
   subst_vars
   exact abj h
 by_cases af:∃l m,p=.str l/\q=.str m
 . obtain⟨l,m,rfl,rfl⟩:=af
   have:=rF rx;have:=rF hN
   subst_vars
   exact abs h
 rw[aa9 (fun k n dj m ce=>U ⟨k,n,dj,m,ce⟩) (fun l m ce=>af ⟨l,m,ce⟩)] at h;cases op<;>simp only[reduceCtorEq] at h
 . cases he:lr p q (y6 P t) with
   |none=>simp[he] at h
   |some b=>
    simp only[he,mI,aV] at h;subst h;exact⟨_,.bool _,by simpa using Q1 rx hN he (.inl rfl)⟩
 . cases he:lr p q (y6 P t) with
   |none=>simp[he] at h
   |some b=>
    simp only[he,mI,aV] at h;subst h;exact⟨_,.bool _,by simpa using Q1 rx hN he (.inr rfl)⟩
theorem U1(ak:eh w Γ s a.tmps){mx:Bool}{x y:Operand}{df g8:aU}{iG:Array TypeId}(az:o.op=.call ⟨.builtin (if mx then .max else .min),#[x,y],iG⟩) (ab:b2 x=some df) (aD:b2 y=some g8)
 (h:sA mx (aN s df) (aN s g8)=some v):hv P w Γ a o v:=by
 have rx:=d4 ak ab;have hN:=d4 ak aD;unfold sA at h;split at h
 . rename_i k m dj n a6 ba
   rw[a6] at rx;rw[ba] at hN;have rx:=kf rx;have hN:=kf hN;cases ao:decide (k=dj) with
   |false=>simp[ao] at h
   |true=>
    simp only[ao,cond_true] at h;cases mx with
    |true=>
     simp only[aV] at h;subst h;exact⟨_,.int _ _,fun w' _=>by simp[execOp,az,resolve,invoke,builtin,rx,hN,Builtin.max_,Builtin.max2]⟩
    |false=>
     simp only[aV] at h;subst h;exact⟨_,.int _ _,fun w' _=>by simp[execOp,az,resolve,invoke,builtin,rx,hN,Builtin.min_,Builtin.min2]⟩
 . cases h
theorem aIb(aB:Good w Γ M)(ak:eh w Γ s a.tmps){x:Operand}{df:aU}{t e:TypeId}(az:o.op=.call ⟨.builtin .len,#[x],#[t]⟩) (hu:P.underlying t=some (.slice e)) (ab:b2 x=some df)
 (h:i0 (aN s df) M=some v):hv P w Γ a o v:=by
 have rx:=d4 ak ab;have key:∀p n c,a.eval x=.slice p n c->v=.int .i64 n->hv P w Γ a o v:=fun p n c ar aq=>by
  subst aq;exact⟨_,.int _ _,fun w' _=>by simp[execOp,az,resolve,invoke,builtin,ar,Builtin.len_,ej hu,goInt]⟩
 unfold i0 at h;split at h
 . rename_i rows c al
   simp only[aV] at h;subst h;rw[al] at rx;generalize ar:a.eval x=bg at rx;cases rx with
   |iE=>exact key _ _ _ ar rfl
   |lE=>exact key _ _ _ ar rfl
   |slice=>exact key _ _ _ ar rfl
 . rename_i id ver start len al
   rw[al] at rx;split at h
   . rename_i z rows hP fz bb
     obtain⟨aj,rfl⟩:=fe h;have aj:hP=ver:=by simpa using aj
     generalize ar:a.eval x=bg at rx;cases rx with
     |aX _ _ _ _ l ag hF _ eF _=>
      obtain⟨U,a4,af,_⟩:=aB.eG id l _ ag bb;rcases eF (by rw[af,aj]) with⟨_,rfl,rfl⟩|⟨_,_,of,h6,rfl,_,_,_⟩
      . exact key _ _ _ ar rfl
      . exact key _ _ _ ar rfl
   . rename_i cells hP bb
     obtain⟨aj,rfl⟩:=fe h;have aj:hP=ver:=by simpa using aj
     generalize ar:a.eval x=bg at rx;cases rx with
     |aX _ _ _ _ l ag hF _ eF _=>
      obtain⟨U,a4,af,_⟩:=aB.eG id l _ ag bb;rcases eF (by rw[af,aj]) with⟨_,rfl,rfl⟩|⟨_,_,of,h6,rfl,_,_,_⟩
      . exact key _ _ _ ar rfl
      . exact key _ _ _ ar rfl
   . cases h
 . cases h
theorem aId(ak:eh w Γ s a.tmps){x:Operand}{df:aU}{t:TypeId}(az:o.op=.call ⟨.builtin .len,#[x],#[t]⟩) (hu:P.underlying t=some .string) (ab:b2 x=some df)
 (h:xV (aN s df)=some v):hv P w Γ a o v:=by
 have rx:=d4 ak ab;unfold xV at h;split at h
 . rename_i b aj
   rw[aj] at rx;have rx:=rF rx;simp only[aV] at h;subst h;have e:(rU b.toArray).size=b.length:=by show b.toArray.size=_;simp
   exact⟨_,.int _ _,fun w' _=>by simp[execOp,az,resolve,invoke,builtin,rx,Builtin.len_,ej hu,goInt,e]⟩
 . cases h
theorem Ux{x:Operand}{t e:TypeId}{n:Nat}(az:o.op=.call ⟨.builtin .len,#[x],#[t]⟩)
 (hu:P.underlying t=some (.array n e)∨∃gD,P.underlying t=some (.pointer gD)/\P.underlying gD=some (.array n e)):hv P w Γ a o (.int .i64 n):=by
 refine⟨_,.int _ _,fun w' _=>?_⟩;rcases hu with hu|⟨gD,hu,n_⟩
 . simp[execOp,az,resolve,invoke,builtin,Builtin.len_,ej hu,goInt]
 . simp[execOp,az,resolve,invoke,builtin,Builtin.len_,ej hu,ej n_,goInt]
theorem aLP{k:IntKind}{i:Int}{y:Nat}(a4:0<=i)(U:i.toNat<=y)(aAp:BoundsCode)(w':World):(Instr.sliceBound (.int k i) y aAp).run P w'=.ok i.toNat w':=by
 have:i<=(y:Int):=by omega
 simp[Instr.sliceBound,asIntOf,a4,this]
theorem KH{d n:Nat}{x:Option V}(h:ix d x=some n):(x=none/\n=d)∨∃k i,x=some (.int k i)/\0<=i/\n=i.toNat:=by
 unfold ix at h;split at h
 . simp only[aV] at h;exact .inl ⟨rfl,h.symm⟩
 . obtain⟨aw,rfl⟩:=fe h
   exact .inr ⟨_,_,rfl,by simpa using aw,rfl⟩
 . cases h
theorem Jl(ak:eh w Γ s a.tmps){x:Option Operand}{y:Option aU}(h:hJ x=some y){d n:Nat}(aj:ix d (eH s y)=some n):
 (x=none/\n=d)∨∃df k i,x=some df/\a.eval df=.int k i/\0<=i/\n=i.toNat:=by
 cases x with
 |none=>
  simp only[hJ,aV] at h;subst h;rcases KH aj with⟨_,e⟩|⟨k,i,e,_⟩
  . exact .inl ⟨rfl,e⟩
  . simp[eH] at e
 |some df=>
  simp only[hJ,dJ] at h;obtain⟨g8,aD,rfl⟩:=h;rcases KH aj with⟨e,_⟩|⟨k,i,e,a4,ba⟩
  . simp[eH] at e
  . simp only[eH,aV] at e
    have:=d4 ak aD;rw[e] at this;exact .inr ⟨df,k,i,rfl,kf this,a4,ba⟩
theorem v1(ak:eh w Γ s a.tmps){lo hi mx:Option Operand}{lo' hi' mx':Option aU}(h_:hJ lo=some lo')(ex:hJ hi=some hi')(ji:hJ mx=some mx')(o_:mx=none∨hi≠none)
 {b:Bool}{len cap l h m:Nat}(a6:ix 0 (eH s lo')=some l)(ba:ix len (eH s hi')=some h)(e3:ix cap (eH s mx')=some m)(U:l<=h)(af:h<=m)(ay:m<=cap)(w':World):
 (Instr.sliceBounds b len cap (lo.map a.eval) (hi.map a.eval) (mx.map a.eval)).run P w'=.ok (l,h,m) w':=by
 rcases Jl ak ji e3 with⟨rfl,rfl⟩|⟨aNB,dS,aHq,rfl,Em,sF,rfl⟩<;>rcases Jl ak ex ba with⟨rfl,rfl⟩|⟨JZ,b8,aHp,rfl,mC,f3,rfl⟩<;>rcases Jl ak h_ a6 with⟨rfl,rfl⟩|⟨hZ,bH,od,rfl,nc,iD,rfl⟩
 all_goals first
  |(exfalso;rcases o_ with o_|o_<;>simp at o_;done)
  |simp[Instr.sliceBounds, *,aLP]
theorem aLS(ak:eh w Γ s a.tmps){t:TypeId}{x:Operand}{lo hi:Option Operand}{df:aU}{lo' hi':Option aU}(az:o.op=.slice t x lo hi none)(hu:P.underlying t=some .string)(ab:b2 x=some df)
 (h_:hJ lo=some lo')(ex:hJ hi=some hi')(h:Aw (aN s df) (eH s lo') (eH s hi')=some v):hv P w Γ a o v:=by
 have rx:=d4 ak ab;unfold Aw at h;split at h
 . rename_i b aj
   rw[aj] at rx;have rx:=rF rx;split at h
   . rename_i l ce a6 ba
     obtain⟨aw,rfl⟩:=fe h;simp only[b_,decide_eq_true_eq] at aw;have aBf:(rU b.toArray).size=b.length:=by show b.toArray.size=_;simp
     refine⟨_,.str _,fun w' _=>?_⟩;have co:=v1 (P:=P) (b:=false) ak h_ ex (mx:=none) (mx':=none) rfl (.inl rfl) a6 ba (e3:=(rfl:ix b.length (eH s none)=some b.length)) aw.1 aw.2 (cF _) w';have hex:(rU b.toArray).extract l ce=⟨((b.drop l).take (ce -l)).toArray⟩:=by
      apply ByteArray.ext;simp[ByteArray.data_extract]
     simp only[Option.map_none] at co;simp[execOp,az,Instr.sliceAt,Instr.slice,ej hu,rx,aBf,co,hex]
   . cases h
 . cases h
theorem Ma{n:Nat}{rows:List (List V)}(h:fq n rows=true){sz:Nat}(fP:∀(i:Nat)(r:List V),rows[i]? =some r->r.length=sz):rows=[]∨sz=n:=by
 cases rows with
 |nil=>exact .inl rfl
 |cons r rs=>
  have U:=fP 0 r rfl;simp only[fq,beq_iff_eq] at h;exact .inr (by omega)
theorem Wj(aB:Good w Γ M)(ak:eh w Γ s a.tmps){t e:TypeId}{n:Nat}{x:Operand}{lo hi mx:Option Operand}{df:aU}{lo' hi' mx':Option aU}(az:o.op=.slice t x lo hi mx)(hu:P.underlying t=some (.slice e))(aK:e6 P e=some n)
 (ab:b2 x=some df)(h_:hJ lo=some lo')(ex:hJ hi=some hi')(ji:hJ mx=some mx')(o_:mx=none∨hi≠none)
 (h:g7 n (aN s df) (eH s lo') (eH s hi') (eH s mx') M=some v):hv P w Γ a o v:=by
 have rx:=d4 ak ab;unfold g7 at h;split at h
 . rename_i rows c al
   rw[al] at rx;split at h
   . rename_i l ce m a6 ba e3
     obtain⟨aw,rfl⟩:=fe h;simp only[b_,decide_eq_true_eq] at aw;obtain⟨⟨⟨iX,Hf⟩,o6⟩,Hi⟩:=aw;generalize d7:a.eval x=bg at rx;cases rx with
     |iE _ ar=>
      have lx:m=0:=by simpa using Hi
      have vd:ce=0:=by omega
      have CT:l=0:=by omega
      subst lx vd CT;have co:∀w',(Instr.sliceBounds true 0 0 (lo.map a.eval) (hi.map a.eval) (mx.map a.eval)).run P w'=.ok (0,0,0) w':=fun w'=>v1 (P:=P) (b:=true) ak h_ ex ji o_ a6 ba e3 (cF _) (cF _) (cF _) w';refine⟨.slice none 0 0,?_,fun w' _=>by simp[execOp,az,Instr.sliceAt,Instr.slice,ej hu,d7,co,gV aK]⟩;have:∀q,nm c 0 0 ([]:List (List V)).length q=c:=by
       intro q;rcases ar with rfl|rfl<;>rfl
      rw[this];simp only[List.drop_nil,List.take_nil];exact .iE c ar
     |lE _ ar p=>
      have lx:m=0:=by simpa using Hi
      have vd:ce=0:=by omega
      have CT:l=0:=by omega
      subst lx vd CT;have co:∀w',(Instr.sliceBounds true 0 0 (lo.map a.eval) (hi.map a.eval) (mx.map a.eval)).run P w'=.ok (0,0,0) w':=fun w'=>v1 (P:=P) (b:=true) ak h_ ex ji o_ a6 ba e3 (cF _) (cF _) (cF _) w';refine⟨.slice (some p) 0 0,?_,fun w' _=>by simp[execOp,az,Instr.sliceAt,Instr.slice,ej hu,d7,co,gV aK]⟩;simp only[List.drop_nil,List.take_nil];refine .lE _ (fun a4=>?_) p;cases c<;>simp[nm] at a4 ar;all_goals (cases mx'<;>simp[eH] at a4)
     |slice _ _ b of sz cap bl ar aC fZ fP bh dL ax fS=>
      have co:∀w',∃e5,(Instr.sliceBounds true rows.length cap (lo.map a.eval) (hi.map a.eval) (mx.map a.eval)).run P w'=.ok (l,ce,e5) w'/\ce<=e5/\(mx=none->e5=cap)/\(mx≠none->e5=m):=fun w'=>by
       rcases Jl ak ji e3 with⟨rfl,_⟩|⟨aNB,dS,aHq,rfl,Em,sF,aN5⟩
       . simp only[hJ,aV] at ji
         subst ji;exact⟨cap,v1 (P:=P) (b:=true) ak h_ ex rfl o_ a6 ba (e3:=rfl) Hf (by omega) (cF _) w',by omega,fun _=>rfl,fun cr=>absurd rfl cr⟩
       . have aAZ:ix cap (eH s mx')=some m:=by
          rcases KH e3 with⟨aA6,_⟩|⟨k,i,es,a4,lO⟩
          . simp only[hJ,dJ] at ji
            obtain⟨y,_,rfl⟩:=ji;simp[eH] at aA6
          . rw[es];simp[ix,a4,lO]
         exact⟨m,v1 (P:=P) (b:=true) ak h_ ex ji o_ a6 ba aAZ Hf o6 (by omega) w',o6,fun aGj=>(by cases aGj),fun _=>rfl⟩
      obtain⟨e5,aOB,n7,p2,TK⟩:=co w;have xB:∀w',(Instr.sliceBounds true rows.length cap (lo.map a.eval) (hi.map a.eval) (mx.map a.eval)).run P w'=.ok (l,ce,e5) w':=fun w'=>by
       obtain⟨aIR,U,_,af,ay⟩:=co w';have:aIR=e5:=by
        by_cases zB:mx=none
        . rw[af zB,p2 zB]
        . rw[ay zB,TK zB]
       rw[<-this];exact U
      have hlen:((rows.drop l).take (ce -l)).length=ce -l:=by simp;omega
      refine⟨.slice (some ⟨b,if e5=l then of else of+l*n,none⟩) (ce -l) (e5 -l),?_,fun w' _=>?_⟩
      . have aED:∀c0,c0≠.nil->(c0=.full->e5 -l=ce -l)->bp w Γ (.slice ((rows.drop l).take (ce -l)) c0) (.slice (some ⟨b,if e5=l then of else of+l*n,none⟩) (ce -l) (e5 -l)):=fun c0 ty LX=>by
         have:=bp.slice (w:=w) (Γ:=Γ) ((rows.drop l).take (ce -l)) c0 b (if e5=l then of else of+l*n) sz (e5 -l) (fun i j=>bl (l+i) j) ty (by rw[hlen];exact LX) (by rw[hlen];omega)
          (fun i r hi=>by
            have hi':i<ce -l:=by rw[<-hlen];exact(bn.1 hi).1
            rw[hs hi',kL] at hi;exact fP _ _ hi)
          (fun i j hi ap=>by
            rw[hlen] at hi;have cr:rows≠[]:=by rintro rfl;simp at Hi;omega
            have Dc:sz=n:=(Ma iX fP).resolve_left cr;rw[if_neg (by omega),<-Dc];have:=bh (l+i) j (by omega) ap;rw[ik] at this;rw[show of+l*sz+(i*sz+j)=of+(l*sz+i*sz+j) by omega];exact this)
          (fun i j hi ap=>by
            rw[hlen] at hi;have cr:rows≠[]:=by rintro rfl;simp at Hi;omega
            have Dc:sz=n:=(Ma iX fP).resolve_left cr;rw[if_neg (by omega),<-Dc];have:=dL (l+i) j (by omega) ap;rw[ik] at this;rw[show of+l*sz+(i*sz+j)=of+(l*sz+i*sz+j) by omega];exact this)
          (fun i r j x hi ap=>by
            have hi':i<ce -l:=by rw[<-hlen];exact(bn.1 hi).1
            rw[hs hi',kL] at hi;exact ax _ _ _ _ hi ap)
          (fun i r j x hi ap=>by
            have hi':i<ce -l:=by rw[<-hlen];exact(bn.1 hi).1
            rw[hs hi',kL] at hi;exact fS _ _ _ _ hi ap);rw[hlen] at this;exact this
        refine aED _ ?_ ?_
        . cases c with
          |nil=>exact absurd rfl ar
          |cv=>simp[nm]
          |any=>simp only[nm];cases(eH s mx').isSome&&(ce==m)<;>simp
          |full=>simp only[nm];cases(eH s mx').isSome<;>cases(ce==m)<;>cases(ce==rows.length)<;>simp
        . intro pZ
          cases aG:(eH s mx').isSome with
          |true=>
           have aGf:mx≠none:=by
            rintro rfl;simp only[hJ,aV] at ji;subst ji;simp[eH] at aG
           have hm:=TK aGf;rw[aG] at pZ;have:ce=m:=by
            cases c<;>simp only[nm,Bool.true_and,cond_true,reduceCtorEq] at pZ;all_goals (cases aj:(ce==m) with
             |true=>simpa using aj
             |false=>rw[aj] at pZ;simp at pZ)
           omega
          |false=>
           have zB:mx=none:=by
            cases mx with
            |none=>rfl
            |some z=>
             simp only[hJ,dJ] at ji;obtain⟨y,_,rfl⟩:=ji;simp[eH] at aG
           have aOu:=p2 zB;rw[aG] at pZ;have:c=.full/\ce=rows.length:=by
            cases c<;>simp only[nm,Bool.false_and,cond_false,reduceCtorEq] at pZ;refine⟨rfl,?_⟩;cases aj:(ce==rows.length) with
            |true=>simpa using aj
            |false=>rw[aj] at pZ;simp at pZ
           have:=aC this.1;omega
      . simp only[execOp,az,Instr.sliceAt,Instr.slice,Sem.run_bind,ej hu,d7,Result.andThen_ok,xB,gV aK,Sem.run_pure,mI,Addr.lh]
        split<;>simp
   . cases h
 . rename_i id ver start len al
   rw[al] at rx;split at h
   . rename_i z rows hP fz bb
     split at h
     . rename_i l ce m a6 ba e3
       obtain⟨aw,rfl⟩:=fe h;simp only[b_,decide_eq_true_eq,beq_iff_eq] at aw;obtain⟨⟨⟨⟨⟨a7,aq⟩,eF⟩,Hf⟩,o6⟩,aGe⟩:=aw;generalize d7:a.eval x=bg at rx;cases rx with
       |aX _ _ _ _ L ag hF _ aGY _=>
        obtain⟨U,a4,af,ay,be,bv,b7,dQ,ch⟩:=aB.eG id L _ ag bb;rcases aGY (by rw[af,aq]) with⟨aw,rfl,rfl⟩|⟨ed,fZ,of,h6,rfl,iT,hk,gz⟩
        . have lx:m=0:=by omega
          have vd:ce=0:=by omega
          have CT:l=0:=by omega
          subst lx vd CT;have co:∀w',(Instr.sliceBounds true 0 0 (lo.map a.eval) (hi.map a.eval) (mx.map a.eval)).run P w'=.ok (0,0,0) w':=fun w'=>v1 (P:=P) (b:=true) ak h_ ex ji o_ a6 ba e3 (cF _) (cF _) (cF _) w';refine⟨.slice none 0 0,.aX _ _ _ _ L ag hF _ (fun _=>.inl ⟨aw,rfl,rfl⟩) rfl,fun w' _=>by simp[execOp,az,Instr.sliceAt,Instr.slice,ej hu,d7,co,gV aK]⟩
        . obtain⟨x4,aA0,n7,p2⟩:∃x4,ix h6 (eH s mx')=some x4/\ce<=x4/\x4<=h6:=by
           cases aG:eH s mx' with
           |none=>exact⟨h6,rfl,by omega,cF _⟩
           |some q=>
            rw[aG] at e3;refine⟨m,?_,o6,by omega⟩;cases q<;>first|exact e3|(simp[ix] at e3;done)
          have co:∀w',(Instr.sliceBounds true len h6 (lo.map a.eval) (hi.map a.eval) (mx.map a.eval)).run P w'=.ok (l,ce,x4) w':=fun w'=>v1 (P:=P) (b:=true) ak h_ ex ji o_ a6 ba aA0 Hf n7 p2 w';refine⟨.slice (some ⟨L.b,if x4=l then of else of+l*n,none⟩) (ce -l) (x4 -l),.aX _ _ _ _ L ag hF _ (fun _=>.inr ⟨ed,by omega,_,_,rfl,by omega,by omega,fun bw=>?_⟩) rfl,fun w' _=>?_⟩
          . rw[if_neg (by omega),gz (by omega),a4,a7,ik]
          . simp only[execOp,az,Instr.sliceAt,Instr.slice,Sem.run_bind,ej hu,d7,Result.andThen_ok,co,gV aK,Sem.run_pure,mI,Addr.lh]
            split<;>simp
     . cases h
   . cases h
 . cases h
end
end Go.aQ
namespace Go.aQ
open Go.RowKit (Below)
section
variable{P:Program}{w:World}{Γ:Env}{M:Mem}{s:aH}{a:Act}{o:Oper}{v:V}
theorem KN{x:V}{xs:List V}{bg:Value}(h:bp w Γ x bg)(ar:x.cells?=some xs):ef w Γ xs bg.cells:=by
 have one:∀{y:V}{dd:Value},bp w Γ y dd->dd.cells=#[dd]->ef w Γ [y] dd.cells:=fun{y dd} aD e=>by
  rw[e];refine⟨rfl,fun j z a7=>?_⟩;cases j with
  |zero=>
   simp only[ja,aV] at a7;subst a7;simpa using aD
  |succ j=>simp at a7
 cases x<;>simp only[V.cells?,aV,reduceCtorEq] at ar<;>subst ar
 case agg cs=>cases h with|agg _ bl ag al=>exact⟨ag,al⟩
 case aX id ver start len=>
  cases h with
  |aX _ _ _ _ l ag aq _ eF ar=>exact one (.aX _ _ _ _ l ag aq _ eF ar) (by cases bg<;>first|rfl|simp[Value.oneCell'] at ar)
 all_goals (have gG:=h;cases h<;>exact one gG rfl)
theorem Wc:∀(xs:List V)(bI:List Value)(k off:Nat)(cells:List V)(c:Array Value),ef w Γ cells c->bI.length=xs.length->(∀(j:Nat)(x:V),xs[j]? =some x->bp w Γ x (bI.getD j Go.undef))->
 ef w Γ (gU cells (off+k) xs) ((bI.zipIdx k).foldl (fun cs p=>cs.setIfInBounds (off+p.2) p.1) c)
 |[],bI,k,off,cells,c,ar,ag,_=>by
  have:bI=[]:=List.length_eq_zero_iff.1 ag;subst this;simpa[gU] using ar
 |x::xs,d::bI,k,off,cells,c,ar,ag,al=>by
  simp only[gU,List.zipIdx_cons,List.foldl_cons];have a4:=al 0 x rfl;rw[show off+k+1=off+(k+1) by omega];refine Wc xs bI (k+1) off _ _ (ar.set a4) (by simpa using ag) (fun j y aD=>?_);simpa using al (j+1) y (by simpa using aD)
 |x::xs,[],k,off,cells,c,ar,ag,al=>by simp at ag
theorem Jw:∀(xs cells:List V)(off:Nat),(gU cells off xs).length=cells.length
 |[],cells,off=>rfl
 |x::xs,cells,off=>by simp[gU,Jw xs]
inductive yO(w:World)(Γ:Env)(place:Nat->Option (Nat×Nat)):List (Nat×Nat×V)->List (Nat×Value)->Prop
 |nil:yO w Γ place [] []
 |cons {off size i:Nat} {x:V} {bg:Value} {cP:List (Nat×Nat×V)} {dN:List (Nat×Value)} (ax:place i=some (off,size)) (ab:bp w Γ x bg) (h:yO w Γ place cP dN):yO w Γ place ((off,size,x)::cP) ((i,bg)::dN)
theorem Fs{place:Nat->Option (Nat×Nat)}{cP:List (Nat×Nat×V)}{dN:List (Nat×Value)}(h:yO w Γ place cP dN):∀{cells cs:List V}{c:Array Value},ef w Γ cells c->oX cells cP=some cs->
 ∃d,Instr.fill place c dN=some d/\ef w Γ cs d:=by
 induction h with
 |nil=>
  intro cells cs c ar aC;simp only[oX,aV] at aC;subst aC;exact⟨c,rfl,ar⟩
 |@cons off size i x bg cP dN ax ab TY bq=>
  intro cells cs c ar aC;simp only[oX] at aC;split at aC
  . rename_i xs vv
    have d7:=KN ab vv;cases aw:(xs.length==size&&decide (off+size<=cells.length)) with
    |false=>simp[aw] at aC
    |true=>
     simp only[aw,cond_true] at aC;simp only[b_,beq_iff_eq,decide_eq_true_eq] at aw;have eV:=Wc xs bg.cells.toList 0 off cells c ar (by simpa using d7.1) (fun j y aD=>by simpa[ih] using d7.2 j y aD);obtain⟨d,U,af⟩:=bq eV aC;refine⟨d,?_,af⟩;have a6:bg.cells.size=size:=by rw[d7.1];exact aw.1
     have ba:¬(off+bg.cells.size>c.size):=by rw[ar.1,a6];omega
     simp only[Instr.fill,ax];rw[if_neg (by simp[a6,ar.1];omega)];rw[<-Array.foldl_toList];simpa using U
  . cases aC
theorem yD{t:TypeId}{z:List V}(h:kJ P t=some z):∃dR:Value,(∀w',(zeroValue t).run P w'=.ok dR w')/\∀(w:World)(Γ:Env),ef w Γ z dR.cells/\∀(j:Nat)(x:V),z[j]? =some x->x.kd=true:=by
 unfold kJ at h;split at h
 . rename_i i hi
   split at h
   . rename_i dR a7
     refine⟨dR,fun w'=>by simp[zeroValue,typeInfo,hi,a7],fun w Γ=>?_⟩;obtain⟨U,af⟩:=Fb (w:=w) (Γ:=Γ) h;exact⟨⟨by simpa using U,fun j x ab=>by simpa using(af j x ab).1⟩,fun j x ab=>(af j x ab).2⟩
   . cases h
 . cases h
theorem Vw:∀(bO:List Field),bO.all (fun f=>(e6 P f.type).isSome)=true->∀w':World,
 (bO.mapM (fun f=>do pure (f.offset,<-sizeOf f.type):Field->Sem (Nat×Nat))).run P w'=.ok (bO.map fun f=>(f.offset,(e6 P f.type).getD 0)) w'
 |[],_,w'=>by simp
 |f::bO,h,w'=>by
  simp only[List.all_cons,b_] at h;obtain⟨n,aK⟩:=Option.isSome_iff_exists.1 h.1;have bq:=Vw bO h.2 w';simp only[List.mapM_cons,Sem.run_bind,gV aK,Result.andThen_ok,Sem.run_pure,bq,hQ,aK,Option.getD_some]
theorem Vs(ak:eh w Γ s a.tmps){bO:Array Field}:∀{d3:List (Nat×Operand)}{cP:List (Nat×Nat×aU)},Al P bO d3=some cP->
 yO w Γ (fun i=>(bO.map fun f=>(f.offset,(e6 P f.type).getD 0))[i]?) (j8 s cP) (d3.map fun p=>(p.1,a.eval p.2))
 |[],cP,h=>by
  simp only[Al,aV] at h;subst h;exact .nil
 |(i,x)::dD,cP,h=>by
  simp only[Al] at h;split at h
  . rename_i f y r aC aD al
    split at h
    . rename_i n aK
      simp only[aV] at h;subst h;exact .cons (by simp[aC,aK]) (d4 ak aD) (Vs ak al)
    . cases h
  . cases h
theorem Jr(ak:eh w Γ s a.tmps){n:Nat}:∀{d3:List (Nat×Operand)}{cP:List (Nat×Nat×aU)},sH n d3=some cP->
 yO w Γ (fun i=>some (i*n,n)) (j8 s cP) (d3.map fun p=>(p.1,a.eval p.2))
 |[],cP,h=>by
  simp only[sH,aV] at h;subst h;exact .nil
 |(i,x)::dD,cP,h=>by
  simp only[sH] at h;split at h
  . rename_i y r aD al
    simp only[aV] at h;subst h;exact .cons rfl (d4 ak aD) (Jr ak al)
  . cases h
theorem P3(ak:eh w Γ s a.tmps){t:TypeId}{d3:Array (Nat×Operand)}{z:List V}{cP:List (Nat×Nat×aU)}(az:o.op=.build t d3)(a7:kJ P t=some z)
 (hu:(∃bO,P.underlying t=some (.struct bO)/\bO.toList.all (fun f=>(e6 P f.type).isSome)=true/\Al P bO d3.toList=some cP)∨
   (∃k e n,P.underlying t=some (.array k e)/\e6 P e=some n/\sH n d3.toList=some cP))
 (h:wE z (j8 s cP)=some v):hv P w Γ a o v:=by
 unfold wE at h;split at h
 . rename_i cs aC
   simp only[aV] at h;subst h;obtain⟨dR,vz,vy⟩:=yD a7;have uU:(d3.map fun p=>(p.1,a.eval p.2)).toList=d3.toList.map fun p=>(p.1,a.eval p.2):=by simp
   rcases hu with⟨bO,hu,d9,e2⟩|⟨k,e,n,hu,aK,e2⟩
   . obtain⟨d,U,af⟩:=Fs (Vs ak e2) (vy w Γ).1 aC
     refine⟨.agg d,.agg _ _ af.1 af.2,fun w' _=>?_⟩;have hm:(bO.mapM (fun f=>do pure (f.offset,<-sizeOf f.type):Field->Sem (Nat×Nat))).run P w'=.ok (bO.map fun f=>(f.offset,(e6 P f.type).getD 0)) w':=by
      rw[Array.mapM_eq_mapM_toList];simp only[Sem.run_map,Vw bO.toList d9 w',Result.andThen_ok]
      congr 1
      apply Array.ext';simp
     simp only[execOp,az,Instr.build,Sem.run_bind,vz,Result.andThen_ok,ej hu,hm,uU,U,Sem.run_pure]
   . obtain⟨d,U,af⟩:=Fs (Jr ak e2) (vy w Γ).1 aC
     refine⟨.agg d,.agg _ _ af.1 af.2,fun w' _=>?_⟩;simp only[execOp,az,Instr.build,Sem.run_bind,vz,Result.andThen_ok,ej hu,gV aK,uU,U,Sem.run_pure]
 . cases h
end
end Go.aQ
namespace Go.aQ
open Go.RowKit (Below)
def h3(P:Program)(w:World)(Γ:Env)(a:Act)(o:Oper)(v:V)(ah:Mem):Prop:=
 ∃r w' Γ',(execOp a.eval o).run P w=.ok r w'/\((∃bl,r=.value bl/\bp w' Γ' v bl)∨(r=.skip/\v=.undef))/\Good w' Γ' ah/\Ext w Γ w' Γ'
section
variable{P:Program}{w:World}{Γ:Env}{M:Mem}{s:aH}{a:Act}{o:Oper}{v:V}
theorem hv.U5(h:hv P w Γ a o v)(aB:Good w Γ M):h3 P w Γ a o v M:=by
 obtain⟨bl,U,af⟩:=h;exact⟨_,w,Γ,af w (Below.refl _ _),.inl ⟨bl,rfl,U⟩,aB,Ext.refl _ _⟩
theorem Un{x:V}{bg:Value}(h:bp w Γ x bg)(ab:x.iA=true):bg.oneCell'=true:=by
 cases h<;>first|rfl|(simp[V.iA] at ab;done)|assumption
theorem aaO{xs:List V}{cs:Array Value}(h:ef w Γ xs cs)(ab:nk xs=true):∀d∈cs.toList,d.oneCell'=true:=by
 intro d aw;obtain⟨j,ap,rfl⟩:=List.getElem_of_mem aw;have o8:j<xs.length:=by rw[<-h.1];simpa using ap
 have ar:(xs[j]).iA=true:=by
  clear h aw ap;induction xs generalizing j with
  |nil=>simp at o8
  |cons z lG bq=>
   simp only[nk,b_] at ab;cases j with
   |zero=>exact ab.1
   |succ j=>exact bq ab.2 j (by simpa using o8)
 have:=Un (h.2 j xs[j] (by simp[o8])) ar;have ip:j<cs.size:=by rw[h.1];exact o8
 simpa[ip] using this
theorem uI:∀{xs:List V},hy xs=true->∀(j:Nat)(x:V),xs[j]? =some x->x.kd=true
 |[],_,j,x,ab=>by simp at ab
 |z::lG,ax,j,x,ab=>by
  simp only[hy,b_] at ax;cases j with
  |zero=>simp at ab;exact ab▸ax.1
  |succ j=>exact uI ax.2 j x (by simpa using ab)
theorem aM0{off row:Nat}{xs cells cs:List V}(h:JY off xs cells row=some cs):off=0/\∃x,xs=[x]/\row<cells.length/\cs=cells.set row x:=by
 unfold JY at h;split at h
 . rename_i x
   obtain⟨U,rfl⟩:=fe h;exact⟨rfl,x,rfl,by simpa using U,rfl⟩
 . cases h
theorem aaT(aB:Good w Γ M){e:TypeId}{z:List V}(az:o.op=.alloc e)(a7:kJ P e=some z):h3 P w Γ a o (.ptr M.length 0) (M++[.box z]):=by
 obtain⟨dR,U,af⟩:=yD a7;obtain⟨aW,a9,bN⟩:=aB.PA dR.cells e z (af w Γ).1;refine⟨_,_,_,?_,.inl ⟨_,rfl,bN⟩,aW,a9⟩;simp[execOp,az,Instr.alloc,U,newVar,newRow]
theorem abE(aB:Good w Γ M)(ak:eh w Γ s a.tmps){e:TypeId}{n:Nat}{x:Operand}{y:aU}{ah:Mem}(az:o.op=.box e x)(ab:b2 x=some y)(h:A0 n (aN s y) M=some (v,ah)):h3 P w Γ a o v ah:=by
 unfold A0 at h;split at h
 . rename_i cs eN
   obtain⟨_,h⟩:=fe h;simp only[dX] at h;obtain⟨rfl,rfl⟩:=h;obtain⟨aW,a9,bN⟩:=aB.PA _ e cs (KN (d4 ak ab) eN);refine⟨_,_,_,?_,.inl ⟨_,rfl,bN⟩,aW,a9⟩;simp[execOp,az,Instr.box,newVar,newRow]
 . cases h
theorem aKr(aB:Good w Γ M)(ak:eh w Γ s a.tmps){t kt oU:TypeId}{x:Operand}{y:aU}{ah:Mem}(az:o.op=.range t x)(hu:P.underlying t=some (.map kt oU))(ab:b2 x=some y)(h:Eb (aN s y) M=some (v,ah)):h3 P w Γ a o v ah:=by
 have al:=d4 ak ab;unfold Eb at h;split at h
 . rename_i id bf
   split at h
   . rename_i es bb
     simp only[aV,dX] at h;obtain⟨rfl,rfl⟩:=h;rw[bf] at al;generalize d7:a.eval x=bg at al;cases al with
     |map _ l ag aj aq=>
      obtain⟨_,_,_,c8,clock,ay,be,bv,b7⟩:=aB.eG id l _ ag bb;have co:=run_range_map (P:=P) w t kt oU l.b c8 clock hu ay;rw[b7] at co;obtain⟨aW,a9,bN⟩:=aB.aaS (n:=es.length) ag aj aq;refine⟨_,_,_,?_,.inl ⟨_,rfl,bN⟩,aW,a9⟩;simp[execOp,az,d7,co]
   . cases h
 . cases h
theorem Wb{w:World}{r:Nat}{o:Obj}{k:Nat}(h:k≠r):(ChangeMaps.setBlock w r o).heap[k]? =w.heap[k]? :=by
 simp[ChangeMaps.setBlock,Array.getElem?_setIfInBounds_ne (gi h)]
theorem aLD{w:World}{r:Nat}{o:Obj}(h:r<w.heap.size):(ChangeMaps.setBlock w r o).heap[r]? =some o:=by
 simp[ChangeMaps.setBlock,h]
theorem aJC(aB:Good w Γ M){id mid n:Nat}{seen:List Nat}{es:List (V×V)}{l:Loc}(ag:Γ.cW[id]? =some l)(bb:M[id]? =some (.iter mid n seen))(hm:M[mid]? =some (.map es))(aK:es.length=n)(na:TypeId):
 ((∀i,i<n->i∈seen)/\(Instr.next (.pointer (some ⟨l.b,0,none⟩)) false na).run P w=.ok (.tuple #[.bool false]) w)∨
 ∃i cx bl w' Γ',es[i]? =some cx/\i∉seen/\(Instr.next (.pointer (some ⟨l.b,0,none⟩)) false na).run P w=.ok bl w'/\bp w' Γ' (.tuple [.bool true,cx.1,cx.2]) bl/\Good w' Γ' (M.set id (.iter mid n (seen++[i])))/\Ext w Γ w' Γ':=by
 obtain⟨U,aq,af,i1,ay,be,bv,b7⟩:=aB.eG id l _ ag bb;obtain⟨_,_,_,c8,clock,dS,fr,fs,ia⟩:=aB.eG mid i1 _ ay hm;have L1:clock=n:=ia.trans aK;subst L1;have get:∀x∈c8.toList,∃(i:Nat)(cx:V×V),c8[i]? =some x/\es[i]? =some cx/\x.born=i:=fun x ab=>by
  obtain⟨i,hi⟩:=ij ab;have hi':c8[i]? =some x:=by simpa using hi
  have bw:i<es.length:=by rw[<-fr];exact(la.1 hi').1
  exact⟨i,es[i],hi',gd bw,(fs i x es[i] hi' (gd bw)).2.2.2.2⟩
 have Mw:∀x∈c8.toList,x.born<clock:=fun x ab=>by
  obtain⟨i,cx,hi,p0,aj⟩:=get x ab;rw[aj,<-aK];exact(bn.1 p0).1
 rcases run_next_at (P:=P) w na l.b i1.b clock clock seen.toArray c8 clock b7 dS Mw (cF _) with⟨a4,co⟩|⟨e,he,hp,oa,co⟩
 . refine .inl ⟨fun i hi=>?_,co⟩
   have bw:i<c8.size:=by omega
   have CZ:c8[i]∈c8.toList:=by simp
   have aj:c8[i].born=i:=by
    have mm:i<es.length:=by omega
    exact(fs i c8[i] es[i] (by simp[bw]) (gd mm)).2.2.2.2
   by_cases ak:i∈seen
   . exact ak
   . exfalso
     have:c8[i]∈leftOf c8 seen.toArray:=by
      unfold leftOf;rw[Array.mem_filter];exact⟨by simp,by simp[aj,ak]⟩
     have:=Array.size_pos_of_mem this;omega
 . have G9:e∈c8.toList/\seen.toArray.contains e.born=false:=by
    unfold leftOf at he;simp only[Array.mem_toList_iff,Array.mem_filter] at he;exact⟨by simpa using he.1,by simpa using he.2⟩
   obtain⟨i,cx,hi,p0,aj⟩:=get e G9.1;have sr:i∉seen:=by
    have:=G9.2;rw[aj] at this;simpa using this
   have aW:Good hp Γ M/\Ext w Γ hp Γ/\hp.heap=w.heap:=by
    rcases oa with rfl|rfl
    . exact⟨aB,Ext.refl _ _,rfl⟩
    . exact⟨aB.drew,Ext.drew w Γ,rfl⟩
   obtain⟨aW,a6,ce⟩:=aW;have aF9:l.b<hp.heap.size:=aW.m0 ag aq;have ba:Ext hp Γ (ChangeMaps.setBlock hp l.b (.mapIter (some i1.b) clock (seen.toArray.push e.born) clock)) Γ:=
    Ext.write aW ag (fun k ao=>Wb ao) (by simp[ChangeMaps.setBlock]) rfl rfl rfl (fun o az=>absurd az (af o));obtain⟨_,_,M2,yx,_⟩:=fs i e cx hi p0;refine .inr ⟨i,cx,_,_,Γ,p0,sr,co,?_,aW.write ag aq ba (fun k ao=>Wb ao) ⟨U,aq,af,i1,ay,be,bv,?_⟩,a6.trans ba⟩
   . refine .tuple _ _ rfl fun j x ab=>?_
     match j,ab with
     |0,ab=>simp at ab;subst ab;exact .bool true
     |1,ab=>simp at ab;subst ab;exact(M2.ext a6).ext ba
     |2,ab=>simp at ab;subst ab;exact(yx.ext a6).ext ba
   . rw[aLD aF9,aj]
     simp
theorem aIa(aB:Good w Γ M)(ak:eh w Γ s a.tmps){x:Operand}{df:aU}{t kt oU:TypeId}{ah:Mem}(az:o.op=.call ⟨.builtin .len,#[x],#[t]⟩) (hu:P.underlying t=some (.map kt oU)) (ab:b2 x=some df)
 (h:DR (aN s df) M=some (v,ah)):h3 P w Γ a o v ah:=by
 have al:=d4 ak ab;unfold DR at h;split at h
 . rename_i id bf
   split at h
   . rename_i es bb
     simp only[aV,dX] at h;obtain⟨rfl,rfl⟩:=h;rw[bf] at al;generalize d7:a.eval x=bg at al;cases al with
     |map _ l ag aj aq=>
      obtain⟨_,_,_,c8,clock,ay,be,bv,b7⟩:=aB.eG id l _ ag bb;refine⟨_,w,Γ,?_,.inl ⟨_,rfl,.int _ _⟩,aB,Ext.refl _ _⟩;rw[<-be];simp[execOp,az,resolve,invoke,builtin,d7,Builtin.len_,ej hu,MapKept.run_getObj_map ay,goInt]
   . cases h
 . cases h
theorem aBc(aB:Good w Γ M)(ak:eh w Γ s a.tmps){x:Operand}{y:aU}{ah:Mem}(az:o.op=.entry x)(ab:b2 x=some y)(h:y5 (aN s y) M=some (v,ah)):h3 P w Γ a o v ah:=by
 have al:=d4 ak ab;unfold y5 at h;split at h
 . rename_i id bf
   split at h
   . rename_i mid n seen bb
     split at h
     . rename_i es i hm xm
       obtain⟨aK,h⟩:=qW h;simp only[dJ,dX] at h;obtain⟨cx,p0,rfl,rfl⟩:=h;rw[bf] at al;generalize d7:a.eval x=bg at al;cases al with
       |ptr _ _ l ag aj aq=>
        obtain⟨U,aq,af,i1,ay,be,bv,b7⟩:=aB.eG id l _ ag bb;obtain⟨_,_,_,c8,clock,dS,fr,fs,ia⟩:=aB.eG mid i1 _ ay hm;have aK:es.length=n:=oI aK;have L1:clock=n:=ia.trans aK;subst L1;have hi:i<c8.size:=by rw[fr];exact(bn.1 p0).1
        have he:c8[i]? =some c8[i]:=by simp[hi]
        obtain⟨_,_,M2,yx,aj⟩:=fs i _ cx he p0;have TO:(c8.toList.map (·.born)).Nodup:=by
         have:c8.toList.map (·.born)=c1 c8.size:=by
          refine oF fun j=>?_;by_cases ap:j<c8.size
          . have tG:j<es.length:=by omega
            have:=(fs j c8[j] es[j] (by simp[ap]) (gd tG)).2.2.2.2;simp[ap,this]
          . simp[ap]
         rw[this];exact List.nodup_range
        obtain⟨bG,rfl⟩:=List.getLast?_eq_some_iff.1 xm;have aGS:(bG++[i]).toArray=bG.toArray.push c8[i].born:=by rw[aj,List.push_toArray]
        rw[aGS] at b7;have co:=run_entry_at (P:=P) w l.b i1.b clock bG.toArray c8 clock c8[i] b7 dS (by simp) TO;refine⟨_,w,Γ,(show(execOp a.eval o).run P w=.ok (.value (.tuple #[c8[i].key,c8[i].val])) w by simp[execOp,az,d7,co]),.inl ⟨_,rfl,?_⟩,aB,Ext.refl _ _⟩;refine .tuple _ _ rfl fun j x ab=>?_;match j,ab with
        |0,ab=>simp at ab;subst ab;exact M2
        |1,ab=>simp at ab;subst ab;exact yx
     . cases h
   . cases h
 . cases h
theorem aIX(aB:Good w Γ M)(ak:eh w Γ s a.tmps){t:TypeId}{kt oU:TypeId}{r:Option Operand}{gA:Option aU}{ah:Mem}(az:o.op=.makeMap t r)(hu:P.underlying t=some (.map kt oU))(al:hJ r=some gA)(h:x2 (eH s gA) M=some (v,ah)):h3 P w Γ a o v ah:=by
 obtain⟨aW,a9,bN⟩:=aB.allocMap;have key:v=.map M.length/\ah=M++[.map []]/\(r=none∨∃x k i,r=some x/\a.eval x=.int k i):=by
  cases r with
  |none=>
   simp only[hJ,aV] at al;subst al;simp only[eH,x2,aV,dX] at h;exact⟨h.1.symm,h.2.symm,.inl rfl⟩
  |some x=>
   simp only[hJ,dJ] at al;obtain⟨y,aD,rfl⟩:=al;have rx:=d4 ak aD;simp only[eH,x2] at h;split at h
   . rename_i heq;cases heq
   . rename_i k i heq
     simp only[aV] at heq h;rw[heq] at rx;simp only[dX] at h;exact⟨h.1.symm,h.2.symm,.inr ⟨x,k,i,rfl,kf rx⟩⟩
   . cases h
 obtain⟨rfl,rfl,jO⟩:=key;refine⟨_,_,_,?_,.inl ⟨_,rfl,bN⟩,aW,a9⟩;rcases jO with rfl|⟨x,k,i,rfl,ab⟩
 . simp[execOp,az,Instr.makeMap]
 . simp[execOp,az,Instr.makeMap,ej hu,ab,asInt,asIntOf]
def rI:Array Value->Nat->List Value->Array Value
 |c,_,[]=>c
 |c,o,d::bI=>rI (c.setIfInBounds o d) (o+1) bI
theorem sP:∀(bI:List Value)(c:Array Value)(o:Nat),(rI c o bI).size=c.size
 |[],c,o=>rfl
 |d::bI,c,o=>by simp[rI,sP bI]
theorem rJ:∀(bI:List Value)(c:Array Value)(o j:Nat),o+bI.length<=c.size->(rI c o bI).getD j Go.undef=if o<=j/\j<o+bI.length then bI.getD (j -o) Go.undef else c.getD j Go.undef
 |[],c,o,j,h=>by simp[rI];intro _ _;omega
 |d::bI,c,o,j,h=>by
  simp only[dz] at h;rw[rI,rJ bI _ _ j (by simp;omega)];by_cases U:o+1<=j/\j<o+1+bI.length
  . rw[if_pos U,if_pos (by simp;omega)]
    rw[show j -o=(j -(o+1))+1 by omega];simp
  . rw[if_neg U]
    by_cases af:j=o
    . subst af
      rw[if_pos (by simp)];have:j<c.size:=by omega
      simp[ih,this]
    . rw[if_neg (by simp;omega)]
      simp[ih,Array.getElem?_setIfInBounds_ne (gi af)]
theorem yo{b:Nat}{T:TypeId}:∀(bI:List Value)(c:Array Value)(o k:Nat)(w:World),w.heap[b]? =some (.cells c T (0,0))->o+k+bI.length<=c.size->(∀d∈bI,d.oneCell'=true)->
 ∃w',(storeCells ⟨b,o,none⟩ bI k).run P w=.ok () w'/\w'.heap[b]? =some (.cells (rI c (o+k) bI) T (0,0))/\(∀j,j≠b->w'.heap[j]? =w.heap[j]?)/\w'.heap.size=w.heap.size/\w'.os=w.os/\w'.tape=w.tape/\w'.output=w.output
 |[],c,o,k,w,aj,hle,aw=>⟨w,by simp[storeCells],aj,fun _ _=>rfl,rfl,rfl,rfl,rfl⟩
 |d::bI,c,o,k,w,aj,hle,aw=>by
  simp only[dz] at hle;have dL:w.cell? ⟨b,o+k,none⟩=some (c.getD (o+k) Go.undef):=by rw[km aj];exact jK (by omega)
  have tE:w.frozen? ⟨b,o+k,none⟩=false:=by simp[World.frozen?,aj]
  have U:=run_store P w ⟨b,o+k,none⟩ d .plain (aw d (by simp));simp only[dL,tE] at U;obtain⟨w',aW,a9,bN,c5,er,eT,iy⟩:=yo bI (c.setIfInBounds (o+k) d) o (k+1) (w.setCell ⟨b,o+k,none⟩ d) (aEZ w b (o+k) d aj) (by simp;omega) (fun hB u5=>aw hB (by simp[u5]));refine⟨w',?_,?_,fun j ap=>(bN j ap).trans (aE0 w _ d ap),c5.trans (by simp),er,eT,iy⟩
  . simp only[storeCells,Addr.lh,Sem.run_bind,U]
    simpa using aW
  . simpa[rI,kM] using a9
theorem NG(xs cells:List V)(off j:Nat)(h:off+xs.length<=cells.length):(gU cells off xs)[j]? =if off<=j/\j<off+xs.length then xs[j -off]? else cells[j]? :=by
 induction xs generalizing cells off with
 |nil=>simp[gU];intro _ _;omega
 |cons x xs bq=>
  simp only[dz] at h;rw[gU,bq _ _ (by simp;omega)];by_cases U:off+1<=j/\j<off+1+xs.length
  . rw[if_pos U,if_pos (by simp;omega),show j -off=(j -(off+1))+1 by omega]
    simp
  . rw[if_neg U]
    by_cases af:j=off
    . subst af
      rw[if_pos (by simp),eC (by omega)];simp
    . rw[if_neg (by simp;omega),dx (gi af)]
theorem aKj{xs cells:List V}{bI:List Value}{c:Array Value}{off:Nat}(ar:ef w Γ cells c)(ab:ef w Γ xs bI.toArray)(h:off+xs.length<=cells.length):ef w Γ (gU cells off xs) (rI c off bI):=by
 have ag:bI.length=xs.length:=by simpa using ab.1
 refine⟨by rw[sP,Jw];exact ar.1,fun j x ap=>?_⟩;rw[NG xs cells off j h] at ap;rw[rJ bI c off j (by rw[ar.1,ag];exact h),ag];split at ap
 . rename_i ey
   rw[if_pos ey];have:=ab.2 _ _ ap;simpa[ih] using this
 . rename_i ey
   rw[if_neg ey];exact ar.2 j x ap
theorem aMc(aB:Good w Γ M)(ak:eh w Γ s a.tmps){t:TypeId}{n:Nat}{x y:Operand}{df g8:aU}{ah:Mem}(az:o.op=.store t x y)(aK:e6 P t=some n)(ab:b2 x=some df)(aD:b2 y=some g8)
 (h:JG n (aN s df) (aN s g8) M=some ah):h3 P w Γ a o .undef ah:=by
 have rx:=d4 ak ab;have hN:=d4 ak aD;unfold JG at h;split at h
 . rename_i xs vv
   cases aw:(xs.length==n&&nk xs) with
   |false=>simp[aw] at h
   |true=>
    simp only[aw,cond_true] at h;simp only[b_,beq_iff_eq] at aw;have d7:=KN hN vv;have nu:=aaO d7 aw.2;have fP:(a.eval y).cells.size=n:=by rw[d7.1];exact aw.1
    have hU:(a.eval y).cells.toList.length=xs.length:=by simpa using d7.1
    split at h
    . rename_i id off ax
      rw[ax] at rx;split at h
      . rename_i cells bb
        obtain⟨hle,rfl⟩:=fe h;have hle:off+n<=cells.length:=by simpa using hle
        generalize sj:a.eval x=bg at rx;cases rx with
        |ptr _ _ l ag aj aq=>
         obtain⟨U,w9,af,c,T,ay,be⟩:=aB.eG id l _ ag bb;obtain⟨w',aW,a9,bN,c5,er,eT,iy⟩:=yo (P:=P) (a.eval y).cells.toList c off 0 w ay (by rw[hU,be.1,aw.1];omega) nu;have he:Ext w Γ w' Γ:=Ext.write aB ag bN c5 er eT iy (fun o' ee=>absurd ee (af o'));have fS:ef w Γ (gU cells off xs) (rI c off (a.eval y).cells.toList):=aKj be (by simpa using d7) (by rw[aw.1];exact hle);refine⟨.skip,w',Γ,?_,.inr ⟨rfl,rfl⟩,aB.write ag w9 he bN ⟨U,w9,af,_,T,a9,(by simpa using fS.ext he)⟩,he⟩;simp[execOp,az,Instr.storeAt,Instr.sureAddr,sj,storeVar,gV aK,fP,aW]
      . cases h
    . rename_i id ver row off ax
      rw[ax] at rx;split at h
      . rename_i z rows hP fz bb
        cases kY:(hP==ver&&decide (fz<=row)&&hy xs) with
        |false=>simp[kY] at h
        |true=>
         simp only[kY,cond_true] at h;simp only[b_,beq_iff_eq,decide_eq_true_eq] at kY;obtain⟨⟨hF,mS⟩,MB⟩:=kY;split at h
         . rename_i r al
           obtain⟨hle,rfl⟩:=fe h;have hle:off+n<=r.length:=by simpa using hle
           generalize sj:a.eval x=bg at rx;cases rx with
           |fo _ _ _ _ l ag jx p My=>
            obtain⟨U,a4,af,ay,be,bv,b7,dQ,ch⟩:=aB.eG id l _ ag bb;have iq:row<rows.length:=(bn.1 al).1;have ed:l.live=true:=bp.EX aB ag bb (by rintro rfl;simp at iq);obtain⟨di,c,T,ch,eL,fp⟩:=ch ed;have ax:=My (by rw[af,hF]);subst ax;have n8:=b7 row r al;have aEy:(row+1)*l.sz<=l.cap*l.sz:=jo _ (by omega);rw[ik,Nat.one_mul] at aEy;obtain⟨w',aW,a9,bN,c5,er,eT,iy⟩:=yo (P:=P) (a.eval y).cells.toList c (row*l.sz+off) 0 w ch (by rw[hU,aw.1,eL];omega) nu;have aOo:fz*l.sz<=row*l.sz:=jo _ mS;have he:Ext w Γ w' Γ:=Ext.write aB ag bN c5 er eT iy (fun o' ee=>by
             refine NX ch a9 ?_;rw[km a9,km ch];have bw:o'<fz*l.sz:=(di o').1 ee;have vh:o'<c.size:=by rw[eL];omega
             rw[jK (by rw[sP];exact vh),jK vh,rJ _ _ _ _ (by rw[hU,aw.1,eL];omega),if_neg (by omega)]);refine⟨.skip,w',Γ,?_,.inr ⟨rfl,rfl⟩,aB.write ag ed he bN ?_,he⟩
            . simp[execOp,az,Instr.storeAt,Instr.sureAddr,sj,storeVar,gV aK,fP,aW]
            . have lV:(gU r off xs).length=r.length:=Jw _ _ _
              have aGA:=uI MB;refine⟨U,a4,af,by simpa using ay,by simpa using be,bv,fun i gA hi=>?_,fun i gA j x hi ap=>?_,fun _=>⟨di,_,T,a9,by rw[sP];exact eL,fun i gA j x hi ap=>?_⟩⟩
              . by_cases rf:row=i
                . subst rf
                  rw[eC iq] at hi;simp only[aV] at hi;rw[<-hi,lV];exact n8
                . rw[dx rf] at hi;exact b7 i gA hi
              . by_cases rf:row=i
                . subst rf
                  rw[eC iq] at hi;simp only[aV] at hi;rw[<-hi,NG xs r off j (by rw[aw.1];exact hle)] at ap;split at ap
                  . exact aGA _ _ ap
                  . exact dQ _ _ _ _ al ap
                . rw[dx rf] at hi;exact dQ _ _ _ _ hi ap
              . by_cases rf:row=i
                . subst rf
                  rw[eC iq] at hi;simp only[aV] at hi;rw[<-hi,NG xs r off j (by rw[aw.1];exact hle)] at ap;rw[rJ _ _ _ _ (by rw[hU,aw.1,eL];omega),hU,aw.1];split at ap
                  . rename_i ey
                    rw[if_pos (by omega)];have:=d7.2 _ _ ap;rw[show row*l.sz+j -(row*l.sz+off+0)=j -off by omega];simpa[ih] using this.ext he
                  . rename_i ey
                    rw[if_neg (by omega)];exact(fp _ _ _ _ al ap).ext he
                . rw[dx rf] at hi
                  rw[rJ _ _ _ _ (by rw[hU,aw.1,eL];omega),hU,aw.1];have eo:j<l.sz:=by rw[<-b7 i gA hi];exact(bn.1 ap).1
                  have cr:¬(row*l.sz+off+0<=i*l.sz+j/\i*l.sz+j<row*l.sz+off+0+n):=by
                   rintro⟨dw,dn⟩;rcases Nat.lt_or_gt_of_ne rf with bw|bw
                   . have:(row+1)*l.sz<=i*l.sz:=jo _ bw
                     rw[ik] at this;omega
                   . have:(i+1)*l.sz<=row*l.sz:=jo _ bw
                     rw[ik] at this;omega
                  rw[if_neg cr];exact(fp _ _ _ _ hi ap).ext he
         . cases h
      . rename_i cells hP bb
        cases hF:hP==ver with
        |false=>simp[hF] at h
        |true=>
         simp only[hF,cond_true] at h;have hF:hP=ver:=by simpa using hF
         split at h
         . rename_i cs eN
           simp only[aV] at h;subst h;obtain⟨rfl,hZ,rfl,iq,rfl⟩:=aM0 eN;have xq:n=1:=by have:=aw.1;simpa using this.symm
           subst xq;generalize sj:a.eval x=bg at rx;cases rx with
           |fo _ _ _ _ l ag jx p My=>
            obtain⟨U,a4,af,be,bv,ch⟩:=aB.eG id l _ ag bb;have ed:l.live=true:=by
             cases jx:l.live with
             |true=>rfl
             |false=>have:=bv jx;omega
            obtain⟨di,c,T,ch,eL,fp⟩:=ch ed;have ax:=My (by rw[af,hF]);rw[a4,kN,iJ] at ax;subst ax;have L5:(a.eval y).cells.toList.length=1:=by rw[hU];rfl
            obtain⟨w',aW,a9,bN,c5,er,eT,iy⟩:=yo (P:=P) (a.eval y).cells.toList c row 0 w ch (by rw[L5];omega) nu;have he:Ext w Γ w' Γ:=Ext.write aB ag bN c5 er eT iy (fun o' ee=>absurd ee (di o'));refine⟨.skip,w',Γ,?_,.inr ⟨rfl,rfl⟩,aB.write ag ed he bN ?_,he⟩
            . simp[execOp,az,Instr.storeAt,Instr.sureAddr,sj,storeVar,gV aK,fP,aW]
            . refine⟨U,a4,af,by simpa using be,bv,fun _=>⟨di,_,T,a9,by rw[sP];exact eL,fun j z a7=>?_⟩⟩
              rw[rJ _ _ _ _ (by rw[L5];omega),L5];by_cases ap:row=j
              . subst ap
                rw[eC iq] at a7;simp only[aV] at a7;subst a7;rw[if_pos (by omega),show row -(row+0)=0 by omega];have:=d7.2 0 hZ rfl;simpa[ih] using this.ext he
              . rw[dx ap] at a7
                rw[if_neg (by omega)];exact(fp j z a7).ext he
         . cases h
      . cases h
    . cases h
 . cases h
end
end Go.aQ
namespace Go.aQ
open Go.RowKit (Below)
section
variable{P:Program}{w:World}{Γ:Env}{M:Mem}{s:aH}{a:Act}{o:Oper}{v:V}
def tt(b sz:Nat):Loc:=⟨b,false,false,sz,0,0⟩
theorem Ext.ghost(w:World)(Γ:Env)(l:Loc):Ext w Γ w (Γ.more l) where
 s b o ak:=⟨ak,rfl⟩
 cW i l' ag:=⟨l',by
  have hi:i<Γ.cW.length:=(bn.1 ag).1;simp only[Env.more];rw[gh hi,ag],cF _,fun _=>rfl,fun _=>rfl⟩
 cq:=rfl
 below:=Below.refl _ _
 rL b o aj ak:=ak
theorem Good.GR(h:Good w Γ M)(sz:Nat){B:a2}(bY:uy w (Γ.more (tt Γ.h1 sz)) (tt Γ.h1 sz) B):Good w (Γ.more (tt Γ.h1 sz)) (M++[B]):=by
 have split:∀i l',(Γ.more (tt Γ.h1 sz)).cW[i]? =some l'->(i<M.length/\Γ.cW[i]? =some l')∨(i=M.length/\l'=tt Γ.h1 sz):=by
  intro i l' ag;simp only[Env.more] at ag;by_cases hi:i<Γ.cW.length
  . rw[gh hi] at ag
    exact .inl ⟨by rw[<-h.len];exact hi,ag⟩
  . rw[jX (Nat.le_of_not_lt hi)] at ag
    have:i -Γ.cW.length=0:=by
     have:=(bn.1 ag).1;simp at this;omega
    rw[this] at ag;simp at ag;exact .inr ⟨by rw[<-h.len];omega,ag.symm⟩
 refine⟨by simp[Env.more,h.len],fun i l' sW ag h8=>?_,fun i l' ag=>?_,fun i j cU eW U af nc mC aj=>?_,h.jC,h.base,h.jE⟩
 . rcases split i l' ag with⟨hi,ei⟩|⟨hi,rfl⟩
   . rw[gh hi] at h8
     exact(h.eG i l' sW ei h8).fJ (Ext.ghost w Γ _) (fun _=>rfl) (fun _ _ h=>h)
   . subst hi
     simp at h8;subst h8;exact bY
 . rcases split i l' ag with⟨hi,ei⟩|⟨hi,rfl⟩
   . exact h.cq i l' ei
   . exact cF _
 . rcases split i cU U with⟨hi,fa⟩|⟨hi,rfl⟩<;>rcases split j eW af with⟨ap,gT⟩|⟨ap,rfl⟩
   . exact h.inj i j cU eW fa gT nc mC aj
   . cases mC
   . cases nc
   . omega
theorem Good.ghost(h:Good w Γ M)(sz:Nat):Good w (Γ.more (tt Γ.h1 sz)) (M++[.arr sz [] 0 0]):=
 h.GR sz ⟨rfl,rfl,rfl,cF _,cF _,fun _=>rfl,fun i r al=>by simp at al,fun i r j x al=>by simp at al,fun aq=>by cases aq⟩
theorem Va(aB:Good w Γ M){x:Operand}{sz:Nat}(az:o.op=.assign x)(ab:MT x=true){ah:Mem}(h:Ah sz M=some (v,ah)):h3 P w Γ a o v ah:=by
 have aq:a.eval x=.slice none 0 0:=by
  unfold MT at ab;split at ab
  . rfl
  . cases ab
 simp only[Ah,aV,dX] at h;obtain⟨rfl,rfl⟩:=h;cases sz with
 |zero=>
  refine⟨_,w,_,by simp[execOp,az,aq];rfl,.inl ⟨_,rfl,?_⟩,aB.GR 1 (B:=.vec [] 0) ⟨rfl,rfl,rfl,cF _,fun _=>rfl,fun aq=>by cases aq⟩,Ext.ghost w Γ _⟩;exact .aX _ _ _ _ (tt Γ.h1 1) (by simp[Env.more,<-aB.len]) (cF _) _ (fun _=>.inl ⟨rfl,rfl,rfl⟩) rfl
 |succ n=>
  refine⟨_,w,_,by simp[execOp,az,aq];rfl,.inl ⟨_,rfl,?_⟩,aB.ghost (n+1),Ext.ghost w Γ _⟩;exact .aX _ _ _ _ (tt Γ.h1 (n+1)) (by simp[Env.more,<-aB.len]) (cF _) _ (fun _=>.inl ⟨rfl,rfl,rfl⟩) rfl
def wz(b sz cap:Nat):Loc:=⟨b,false,true,sz,cap,0⟩
theorem Good.Pz(h:Good w Γ M)(c:Array Value)(T:TypeId)(sz cap:Nat)(rows:List (List V))(ar:c.size=cap*sz)(hle:rows.length<=cap)(fP:∀(i:Nat)(r:List V),rows[i]? =some r->r.length=sz)
 (ax:∀(i:Nat)(r:List V)(j:Nat)(x:V),rows[i]? =some r->r[j]? =some x->x.kd=true/\bp w Γ x (c.getD (i*sz+j) Go.undef)):
 Good (w.alloc (.cells c T)) (Γ.more (wz w.heap.size sz cap)) (M++[.arr sz rows 0 0])/\Ext w Γ (w.alloc (.cells c T)) (Γ.more (wz w.heap.size sz cap)):=by
 have he:=Ext.oN h (.cells c T) (wz w.heap.size sz cap);refine⟨h.oN _ _ rfl _ ⟨rfl,rfl,rfl,fG _,hle,(fun aq=>by cases aq),fP,fun i r j x al ab=>(ax i r j x al ab).1,fun _=>⟨fun o=>⟨fun az=>absurd az (h.vQ o),(fun az=>by simp at az)⟩,c,T,heap_alloc_new w _,ar,fun i r j x al ab=>(ax i r j x al ab).2.ext he⟩⟩,he⟩
theorem NM(h:Good w Γ M){w':World}{sz cap len:Nat}(hle:len<=cap):bp w' (Γ.more (wz w.heap.size sz cap)) (.aX M.length 0 0 len) (.slice (some ⟨w.heap.size,0,none⟩) len cap):=
 .aX _ _ _ _ (wz w.heap.size sz cap) (by simp[Env.more,<-h.len]) (cF _) _ (fun _=>.inr ⟨rfl,(by show 0+len<=cap;omega),0,cap,rfl,(by show 0+cap<=cap;omega),hle,(fun _=>by simp)⟩) rfl
theorem aNI{lG:Array Value}{n sz i j:Nat}(a7:lG.size=sz)(ap:j<sz)(h:i*sz+j<n):(((Array.range n).map (lG[·%lG.size]!)).getD (i*sz+j) Go.undef)=lG.getD j Go.undef:=by
 have e:(i*sz+j)%lG.size=j:=by rw[a7,Nat.add_comm,Nat.add_mul_mod_self_right,Nat.mod_eq_of_lt ap]
 have o8:j<lG.size:=by omega
 simp[ih,h,e,o8]
theorem UJ(aB:Good w Γ M)(ak:eh w Γ s a.tmps){t e:TypeId}{i:TypeInfo}{z:List V}{l c:Operand}{l' c0:aU}{ah:Mem}(az:o.op=.makeSlice t l c)(hu:P.underlying t=some (.slice e))(hi:P.info? e=some i)(a7:kJ P e=some z)
 (p_:z.length=i.size)(ax:hy z=true)(ag:b2 l=some l')(ar:b2 c=some c0)(h:m1 z i.size i.bytes (aN s l') (aN s c0) M=some (v,ah)):h3 P w Γ a o v ah:=by
 have rl:=d4 ak ag;have rc:=d4 ak ar;unfold m1 at h;split at h
 . rename_i bH L b8 C a6 ba
   rw[a6] at rl;rw[ba] at rc;have rl:=kf rl;have rc:=kf rc;obtain⟨aw,h⟩:=fe h;simp only[dX] at h;obtain⟨rfl,rfl⟩:=h;simp only[b_,decide_eq_true_eq] at aw;obtain⟨⟨⟨dh,aN_⟩,aEB⟩,SZ⟩:=aw;obtain⟨dR,vz,vy⟩:=yD a7;have vx:=(vy w Γ).1;have aNf:IntKind.i64.wrap L=L:=by
    have e:(2:Int)^IntKind.i64.bits=18446744073709551616:=by decide
    have fm:(2:Int)^(IntKind.i64.bits -1)=9223372036854775808:=by decide
    unfold IntKind.wrap;simp only[e,fm,show IntKind.i64.signed=true from rfl,Bool.true_and,decide_eq_true_eq];split<;>omega
   have aNe:IntKind.i64.wrap C=C:=by
    have e:(2:Int)^IntKind.i64.bits=18446744073709551616:=by decide
    have fm:(2:Int)^(IntKind.i64.bits -1)=9223372036854775808:=by decide
    unfold IntKind.wrap;simp only[e,fm,show IntKind.i64.signed=true from rfl,Bool.true_and,decide_eq_true_eq];split<;>omega
   have xH:dR.cells.size=i.size:=by rw[vx.1,p_]
   let cells:Array Value:=if C.toNat*i.size=0 then(Array.range (C.toNat*i.size)).map ((#[]:Array Value)[·%(#[]:Array Value).size]!) else(Array.range (C.toNat*i.size)).map (dR.cells[·%dR.cells.size]!)
   have eN:cells.size=C.toNat*i.size:=by simp only[cells];split<;>simp
   obtain⟨aW,a9⟩:=aB.Pz cells e i.size C.toNat (fV L.toNat z) eN (by simp;omega)
    (fun j r al=>by
      have:=(bn.1 al);obtain⟨dw,dn⟩:=this;simp at dn;rw[<-dn];exact p_)
    (fun j r m x al ab=>by
      obtain⟨dw,dn⟩:=bn.1 al;simp only[List.length_replicate] at dw;simp only[List.getElem_replicate] at dn;subst dn;refine⟨uI ax m x ab,?_⟩;have hm:m<i.size:=by rw[<-p_];exact(bn.1 ab).1
      have bw:j*i.size+m<C.toNat*i.size:=by
       have:(j+1)*i.size<=C.toNat*i.size:=jo _ (by omega);rw[ik] at this;omega
      have cr:¬(C.toNat*i.size=0):=by omega
      simp only[cells,if_neg cr];rw[aNI xH hm bw];exact vx.2 m x ab);refine⟨_,_,_,?_,.inl ⟨_,rfl,NM aB (w':=_) (sz:=i.size) (cap:=C.toNat) (by omega)⟩,aW,a9⟩;have aj:¬(2^48<(i.bytes:Int)*C):=by rw[Int.mul_comm];omega
   have aK:(e6 P e)=some i.size:=by simp[e6,hi]
   have aDU:¬C<0:=by omega
   have aDZ:¬L<0:=by omega
   have aD1:¬L>C:=by omega
   simp only[execOp,az,Instr.makeSlice,Sem.run_bind,ej hu,Result.andThen_ok,rl,rc,asInt,asIntOf,Sem.run_pure,aNf,aNe,typeInfo,run_program,hi];simp only[aDU,aDZ,aD1,aj,decide_false,Bool.or_false,Bool.false_or,i_,if_false,gt_iff_lt];simp only[Sem.run_bind,run_askRoom,Result.andThen_ok,gV aK,Sem.run_ite,Sem.run_pure,vz,newRow,run_newObj];by_cases a4:C.toNat*i.size=0
   . simp only[cells,a4,if_true]
     simp
   . simp only[cells,a4,if_false]
     simp
 . cases h
theorem Good.toVec{z:V}{n ver:Nat}(aB:Good w Γ (M++[.arr 1 (fV n [z]) ver 0])):Good w Γ (M++[.vec (fV n z) ver]):=by
 refine⟨by have:=aB.len;simpa using this,fun i m B hm bY=>?_,aB.cq,aB.inj,aB.jC,aB.base,aB.jE⟩;rcases Nat.lt_trichotomy i M.length with hi|hi|hi
 . rw[gh hi] at bY
   exact aB.eG i m B hm (by rw[gh hi];exact bY)
 . subst hi
   simp only[List.getElem?_concat_length,aV] at bY;subst bY;obtain⟨U,a4,af,ay,be,bv,b7,dQ,ch⟩:=aB.eG M.length m (.arr 1 (fV n [z]) ver 0) hm (by simp);refine⟨U,a4,af,by simpa using be,bv,fun aq=>?_⟩;obtain⟨di,c,T,ch,eL,fp⟩:=ch aq;refine⟨fun o az=>?_,c,T,ch,by rw[eL,a4,kN],fun j x ab=>?_⟩
   . have:=(di o).1 az;omega
   . have ap:j<n:=by have:=(bn.1 ab).1;simpa using this
     rw[List.getElem?_replicate,if_pos ap] at ab;simp only[aV] at ab;subst ab;have:=fp j [z] 0 z (by rw[List.getElem?_replicate,if_pos ap]) rfl;rwa [a4,kN,iJ] at this
 . rw[lJ (by simp;omega)] at bY
   cases bY
theorem aI1(aB:Good w Γ M)(ak:eh w Γ s a.tmps){t e:TypeId}{i:TypeInfo}{z:V}{l c:Operand}{l' c0:aU}{ah:Mem}(az:o.op=.makeSlice t l c)(hu:P.underlying t=some (.slice e))(hi:P.info? e=some i)(a7:kJ P e=some [z])
 (p_:[z].length=i.size)(ax:hy [z]=true)(ag:b2 l=some l')(ar:b2 c=some c0)(h:Jb z i.bytes (aN s l') (aN s c0) M=some (v,ah)):h3 P w Γ a o v ah:=by
 unfold Jb at h;split at h
 . rename_i k n aK
   split at h
   . rename_i ae gO hm
     simp only[aV,dX] at h;obtain⟨rfl,rfl⟩:=h;have a6:i.size=1:=p_.symm;have lx:gO=M++[.arr 1 (fV n.toNat [z]) 0 0]:=by
      unfold m1 at hm;rw[aK] at hm;split at hm
      . rename_i U af
        simp only[V.int.injEq] at U;obtain⟨_,rfl⟩:=U;obtain⟨_,hm⟩:=fe hm;simp only[dX] at hm;exact hm.2.symm
      . cases hm
     subst lx;rw[<-a6] at hm;obtain⟨r,w',Γ',aW,a9,bN,c5⟩:=UJ aB ak az hu hi a7 p_ ax ag ar hm;rw[a6] at bN;exact⟨r,w',Γ',aW,a9,bN.toVec,c5⟩
   . cases h
 . cases h
end
end Go.aQ
namespace Go.aQ
open Go.RowKit (Below)
section
variable{P:Program}{w:World}{Γ:Env}{M:Mem}{s:aH}{a:Act}{o:Oper}{v:V}
theorem ul{i j n sz:Nat}(hi:i<n)(ap:j<sz):i*sz+j<n*sz:=by
 have:(i+1)*sz<=n*sz:=jo _ hi;rw[ik] at this;omega
def md(w:World)(Γ:Env)(sz:Nat)(rows:List (List V))(bI:List Value):Prop:=
 bI.length=rows.length*sz/\(∀(i:Nat)(r:List V),rows[i]? =some r->r.length=sz)/\
 ∀(i:Nat)(r:List V)(j:Nat)(x:V),rows[i]? =some r->r[j]? =some x->x.kd=true/\bp w Γ x (bI.getD (i*sz+j) Go.undef)
theorem V3(aB:Good w Γ M){x:V}{bg:Value}(ab:bp w Γ x bg){sz:Nat}{rows:List (List V)}(h:eJ sz M x=some rows):
 ∃p cap bI,bg=.slice p rows.length cap/\md w Γ sz rows bI/\∀w':World,(∀(b q:Nat)(u:Value),w.cell? ⟨b,q,none⟩=some u->w'.cell? ⟨b,q,none⟩=some u)->(Builtin.firstCells sz rows.length bg).run P w'=.ok bI.toArray w':=by
 unfold eJ at h;split at h
 . rename_i rs c
   obtain⟨ce,rfl⟩:=fe h;cases ab with
   |iE=>exact⟨none,0,[],rfl,⟨by simp,fun i r al=>by simp at al,fun i r j x al=>by simp at al⟩,fun w' _=>by simp[Builtin.firstCells]⟩
   |lE=>exact⟨_,0,[],rfl,⟨by simp,fun i r al=>by simp at al,fun i r j x al=>by simp at al⟩,fun w' _=>by simp[Builtin.firstCells,loadCells,loadCellsFrom]⟩
   |slice _ _ b of z cap bl ar aC fZ fP bh dL ax fS=>
    let bI:=(c1 (rs.length*sz)).map fun q=>bl (q/sz) (q%sz)
    have a7:rs=[]∨z=sz:=Ma ce fP;refine⟨_,_,bI,rfl,⟨by simp[bI],fun i r al=>?_,fun i r j x al ab=>?_⟩,fun w' gH=>?_⟩
    . rcases a7 with rfl|rfl
      . simp at al
      . exact fP i r al
    . rcases a7 with rfl|rfl
      . simp at al
      . have hi:i<rs.length:=(bn.1 al).1
        have ap:j<z:=by rw[<-fP i r al];exact(bn.1 ab).1
        refine⟨ax _ _ _ _ al ab,?_⟩;have a6:(i*z+j)/z=i:=by rw[Nat.add_comm,Nat.add_mul_div_right _ _ (by omega),Nat.div_eq_of_lt ap,ev]
        have ba:(i*z+j)%z=j:=by rw[Nat.add_comm,Nat.add_mul_mod_self_right,Nat.mod_eq_of_lt ap]
        have:bI.getD (i*z+j) Go.undef=bl i j:=by
         simp only[bI,kK];rw[gY,List.getElem?_range (ul hi ap)];simp[a6,ba]
        rw[this];exact fS _ _ _ _ al ab
    . simp only[Builtin.firstCells]
      rcases a7 with rfl|rfl
      . simp[bI,loadCells,loadCellsFrom]
      . refine run_loadCells w' ⟨b,of,none⟩ (rs.length*z) (fun q=>bl (q/z) (q%z)) (fun q aG=>?_)
        rw[Addr.lh];refine gH _ _ _ ?_;have Dg:0<z:=by
         rcases Nat.eq_zero_or_pos z with a4|a4
         . subst a4;simp at aG
         . exact a4
        have vo:q/z<rs.length:=by rw[Nat.div_lt_iff_lt_mul Dg];exact aG
        have aGF:q%z<z:=Nat.mod_lt _ Dg;have:=dL (q/z) (q%z) vo aGF;have e:q/z*z+q%z=q:=by rw[Nat.mul_comm];exact Nat.div_add_mod q z
        rw[e] at this;exact this
 . rename_i id ver start len
   split at h
   . rename_i z rs hP fz bb
     obtain⟨aj,rfl⟩:=fe h;simp only[b_,beq_iff_eq,decide_eq_true_eq] at aj;obtain⟨⟨a7,hF⟩,hle⟩:=aj;have hlen:((rs.drop start).take len).length=len:=by simp;omega
     cases ab with
     |aX _ _ _ _ l ag jx _ eF _=>
      obtain⟨U,a4,af,ay,be,bv,b7,dQ,ch⟩:=aB.eG id l _ ag bb;have CW:l.sz=sz:=by omega
      rcases eF (by rw[af,hF]) with⟨aw,rfl,rfl⟩|⟨ed,fZ,of,h6,rfl,iT,hk,gz⟩
      . exact⟨none,0,[],by simp,⟨by simp,fun i r al=>by simp at al,fun i r j x al=>by simp at al⟩,fun w' _=>by simp[Builtin.firstCells]⟩
      . obtain⟨di,c,T,ch,eL,fp⟩:=ch ed
        rw[hlen];let bI:=(c1 (len*sz)).map fun q=>c.getD (start*sz+q) Go.undef
        have CI:(start+len)*sz<=c.size:=by rw[eL,CW];exact jo _ fZ
        rw[ik] at CI;have gr:∀i r,((rs.drop start).take len)[i]? =some r->i<len/\rs[start+i]? =some r:=fun i r al=>by
         have hi:i<len:=by rw[<-hlen];exact(bn.1 al).1
         rw[hs hi,kL] at al;exact⟨hi,al⟩
        refine⟨_,_,bI,rfl,⟨by simp[bI,hlen],fun i r al=>?_,fun i r j x al ab=>?_⟩,fun w' gH=>?_⟩
        . rw[<-CW];exact b7 _ _ (gr i r al).2
        . obtain⟨hi,jO⟩:=gr i r al
          have ap:j<sz:=by rw[<-CW,<-b7 _ _ jO];exact(bn.1 ab).1
          refine⟨dQ _ _ _ _ jO ab,?_⟩;have:bI.getD (i*sz+j) Go.undef=c.getD ((start+i)*l.sz+j) Go.undef:=by
           simp only[bI,kK];rw[gY,List.getElem?_range (ul hi ap)];simp only[mI,Option.getD_some];rw[CW,ik,kM]
          rw[this];exact fp _ _ _ _ jO ab
        . simp only[Builtin.firstCells]
          refine run_loadCells w' ⟨l.b,of,none⟩ (len*sz) (fun q=>c.getD (start*sz+q) Go.undef) (fun q aG=>?_);rw[Addr.lh];refine gH _ _ _ ?_;have iX:0<len:=by
           rcases Nat.eq_zero_or_pos len with a4|a4
           . subst a4;simp at aG
           . exact a4
          rw[gz (by omega),CW,km ch];exact jK (by omega)
   . cases h
 . cases h
theorem yg(aB:Good w Γ M){x:V}{bg:Value}(ab:bp w Γ x bg){sz:Nat}{rows:List (List V)}(h:eJ sz M x=some rows):
 ∃p cap bI,bg=.slice p rows.length cap/\md w Γ sz rows bI/\∀w',w'.heap=w.heap->(Builtin.firstCells sz rows.length bg).run P w'=.ok bI.toArray w':=by
 obtain⟨p,cap,bI,U,af,ay⟩:=V3 (P:=P) aB ab h;exact⟨p,cap,bI,U,af,fun w' hw=>ay w' fun b q u hu=>by rw[ta (w:=w) (w':=w') (by rw[hw])];exact hu⟩
theorem P4:∀{rows:List (List V)}{js:List UInt8},yW rows=some js->∃k4:List Int,rows=k4.map (fun n=>[.int .u8 n])/\js=k4.map (fun n=>UInt8.ofNat n.toNat)
 |[],js,h=>by
  simp only[yW,aV] at h;exact⟨[],rfl,h.symm⟩
 |r::rs,js,h=>by
  unfold yW at h;split at h
  . rename_i e;cases e
  . rename_i n aOP e
    simp only[List.cons.injEq] at e;obtain⟨rfl,rfl⟩:=e;obtain⟨aNY,U,rfl⟩:=dJ.1 h;obtain⟨k4,af,ay⟩:=P4 U;exact⟨n::k4,by rw[af];rfl,by rw[ay];rfl⟩
  . cases h
theorem SJ:∀(k4:List Int)(r:ByteArray),k4.foldl (fun r n=>r.push (UInt8.ofNat n.toNat)) r=⟨r.data++(k4.map (fun n=>UInt8.ofNat n.toNat)).toArray⟩
 |[],r=>by simp
 |n::k4,r=>by
  simp only[List.foldl_cons];rw[SJ k4];simp[ByteArray.push]
theorem abM(aB:Good w Γ M)(ak:eh w Γ s a.tmps){src dst e:TypeId}{x:Operand}{y:aU}(az:o.op=.convert src dst x)(hu:P.underlying src=some (.slice e))(he:P.underlying e=some (.int .u8))(aw:P.underlying dst=some .string)(aD:b2 x=some y)
 (h:r6 (aN s y) M=some v):hv P w Γ a o v:=by
 have ab:=d4 ak aD;unfold r6 at h;split at h
 . rename_i rows sv
   obtain⟨js,aEz,rfl⟩:=dJ.1 h;obtain⟨k4,rfl,rfl⟩:=P4 aEz;obtain⟨p,cap,bI,ar,af,ay⟩:=V3 (P:=P) aB ab sv;have hlen:bI.length=k4.length:=by have:=af.1;simpa using this
   have pX:bI=k4.map (Value.int .u8):=by
    refine oF fun j=>?_;by_cases ap:j<k4.length
    . have be:=(af.2.2 j [.int .u8 k4[j]] 0 (.int .u8 k4[j]) (by simp[ap]) rfl).2
      have bv:=kf be;simp only[kN,iJ,kK] at bv;have o8:j<bI.length:=by omega
      rw[gd o8] at bv⊢;simp only[Option.getD_some] at bv;rw[bv,gY,gd ap];rfl
    . rw[lJ (by omega),lJ (by simp;omega)]
   subst pX;refine⟨.string ⟨(k4.map (fun n=>UInt8.ofNat n.toNat)).toArray⟩,.str _,fun w' aj=>?_⟩;have co:=ay w' fun b q u hu=>KM hu aj;rw[ar] at co;cases p with
   |none=>
    have:k4=[]:=by simpa[Builtin.firstCells] using co
    subst this;have L8:ByteArray.empty=⟨#[]⟩:=rfl;simp[execOp,az,ar,run_convert_bytes_string w' src dst e none _ _ hu he aw,Conv.bytesToString,L8]
   |some q=>
    have ag:(loadCells q (k4.map (fun n=>[V.int .u8 n])).length).run P w'=.ok (k4.map (Value.int .u8)).toArray w':=by
     simpa[Builtin.firstCells] using co
    have gT:=run_bytesToString (P:=P) w' q _ cap k4 ag;simp only[eD] at gT;have L8:ByteArray.empty.data=#[]:=rfl;simp[execOp,az,ar,run_convert_bytes_string w' src dst e (some q) _ _ hu he aw,gT,SJ]
 . cases h
theorem nextslicecap_le(x9 cap:Nat)(h:cap<x9):Builtin.nextslicecap x9 cap<=2*x9:=by
 have grow:∀(k c:Nat),c<=2*x9->256<=x9->Builtin.growBy x9 k c<=2*x9:=by
  intro k;induction k with
  |zero=>intro c ar _;simpa[Builtin.growBy] using ar
  |succ k bq=>
   intro c ar aK;simp only[Builtin.growBy];split
   . exact ar
   . exact bq _ (by omega) aK
 unfold Builtin.nextslicecap;split
 . omega
 . split
   . omega
   . exact grow 4 cap (by omega) (by omega)
theorem OG(lG:Array Value)(n:Nat):(Builtin.zeroCells lG n).size=n*lG.size:=by simp[Builtin.zeroCells]
theorem Ks{st e ad fm:TypeId}{i:TypeInfo}{dR:Value}{bg:Value}{base p:Option Addr}{sLen sCap n c:Nat}{m5 new:List Value}(hu:P.underlying st=some (.slice e))(kv:P.underlying ad=some (.slice fm))(hi:P.info? e=some i)(lA:i.zero=some dR)(aEB:0<i.bytes)
 (d7:bg=.slice p n c)(Mw:∀w',w'.heap=w.heap->(Builtin.firstCells i.size sLen (.slice base sLen sCap)).run P w'=.ok m5.toArray w')(mo:∀w',w'.heap=w.heap->(Builtin.firstCells i.size n bg).run P w'=.ok new.toArray w')
 (n9:(sLen+n)*(2*i.bytes)<=2^48):
 if sLen+n<=sCap then
  (Builtin.append_ #[st,ad] st #[.slice base sLen sCap,bg]).run P w=(match base with
    |some p=>((storeCells (p.add (sLen*i.size)) new).run P w).andThen fun _ aNb=>.ok (.slice base (sLen+n) sCap) aNb
    |none=>.ok (.slice base (sLen+n) sCap) w)
 else
  ∃jk,sLen+n<=jk/\(Builtin.append_ #[st,ad] st #[.slice base sLen sCap,bg]).run P w=
   .ok (.slice (some ⟨w.heap.size,0,none⟩) (sLen+n) jk) (w.drew.alloc (.cells (m5.toArray++new.toArray++Builtin.zeroCells dR.cells (jk -(sLen+n))) e)):=by
 have aK:e6 P e=some i.size:=by simp[e6,hi]
 have hlen:∀w',(Builtin.lenOf bg).run P w'=.ok n w':=fun w'=>by subst d7;simp[Builtin.lenOf]
 have a7:∀w',(zeroValue e).run P w'=.ok dR w':=fun w'=>by simp[zeroValue,typeInfo,hi,lA]
 have aG7:∀w',(typeInfo e).run P w'=.ok i w':=fun w'=>by simp[typeInfo,hi]
 split
 . rename_i lS
   simp only[Builtin.append_];simp only[List.getElem?_toArray,ja,List.getElem?_cons_succ,Sem.run_bind,ej hu,ej kv,gV aK,Result.andThen_ok,Sem.run_pure,i_,if_false,hlen,lS,if_true,Bool.not_false,mo w rfl];cases base with
   |none=>simp
   |some q=>simp
 . rename_i lS
   have fZ:sCap<sLen+n:=by omega
   have mV:=nextslicecap_le (sLen+n) sCap fZ;have MI:¬(2^48<Builtin.nextslicecap (sLen+n) sCap*i.bytes):=by
    have U:Builtin.nextslicecap (sLen+n) sCap*i.bytes<=2*(sLen+n)*i.bytes:=jo _ mV;have af:2*(sLen+n)*i.bytes=(sLen+n)*(2*i.bytes):=by
     rw[Nat.mul_comm 2 (sLen+n),Nat.mul_assoc]
    omega
   have pU:¬(i.bytes=0):=by omega
   refine⟨(sLen+n)+w.tape w.drawn (.appendCap (sLen+n) sCap e)%(2^63 -(sLen+n)),by omega,?_⟩;simp only[Builtin.append_];simp only[List.getElem?_toArray,ja,List.getElem?_cons_succ,Sem.run_bind,ej hu,ej kv,gV aK,Result.andThen_ok,Sem.run_pure,i_,if_false,hlen,lS,Bool.not_false,if_true,aG7,pU,or_false,and_false,gt_iff_lt,MI];simp only[Sem.run_bind,run_choose,Question.forced,Question.cut,i_,if_false,Result.andThen_ok,run_askRoom,World.drew_eq,Mw w.drew rfl,mo w.drew rfl,a7,newRow,run_newObj,Sem.run_pure];simp;rfl
theorem md.append{sz:Nat}{i4 r2:List (List V)}{d1 d2:List Value}(U:md w Γ sz i4 d1)(af:md w Γ sz r2 d2):md w Γ sz (i4++r2) (d1++d2):=by
 obtain⟨bU,c4,eS⟩:=U;obtain⟨b4,dF,gQ⟩:=af;refine⟨by simp[bU,b4,ik],fun i r al=>?_,fun i r j x al ab=>?_⟩
 . by_cases hi:i<i4.length
   . rw[gh hi] at al;exact c4 i r al
   . rw[jX (by omega)] at al;exact dF _ r al
 . by_cases hi:i<i4.length
   . rw[gh hi] at al
     have ap:j<sz:=by rw[<-c4 i r al];exact(bn.1 ab).1
     have bw:i*sz+j<d1.length:=by rw[bU];exact ul hi ap
     have:=eS _ _ _ _ al ab;refine⟨this.1,?_⟩;rw[List.getD_eq_getElem?_getD,gh bw,<-List.getD_eq_getElem?_getD];exact this.2
   . rw[jX (by omega)] at al
     have:=gQ _ _ _ _ al ab;refine⟨this.1,?_⟩;have e:i*sz+j=d1.length+((i -i4.length)*sz+j):=by
      rw[bU,<-kM,<-ik,Nat.add_sub_cancel' (by omega)]
     have hle:d1.length<=i*sz+j:=by omega
     rw[List.getD_eq_getElem?_getD,jX hle,<-List.getD_eq_getElem?_getD,show i*sz+j -d1.length=(i -i4.length)*sz+j by omega];exact this.2
theorem md.ext{w':World}{Γ':Env}(he:Ext w Γ w' Γ'){sz:Nat}{rows:List (List V)}{bI:List Value}(h:md w Γ sz rows bI):md w' Γ' sz rows bI:=
 ⟨h.1,h.2.1,fun i r j x al ab=>⟨(h.2.2 i r j x al ab).1,(h.2.2 i r j x al ab).2.ext he⟩⟩
theorem md.head{sz:Nat}{rows:List (List V)}{bI:List Value}(h:md w Γ sz rows bI)(dD:Array Value):∀(i:Nat)(r:List V)(j:Nat)(x:V),rows[i]? =some r->r[j]? =some x->x.kd=true/\bp w Γ x ((bI.toArray++dD).getD (i*sz+j) Go.undef):=by
 intro i r j x al ab;have hi:i<rows.length:=(bn.1 al).1;have ap:j<sz:=by rw[<-h.2.1 i r al];exact(bn.1 ab).1
 have bw:i*sz+j<bI.length:=by rw[h.1];exact ul hi ap
 have:=h.2.2 i r j x al ab;refine⟨this.1,?_⟩;have e:(bI.toArray++dD).getD (i*sz+j) Go.undef=bI.getD (i*sz+j) Go.undef:=by
  simp[ih,Array.getElem?_append,bw]
 rw[e];exact this.2
theorem VO(aB:Good w Γ M){sz:Nat}{rows:List (List V)}{bI:List Value}(h:md w Γ sz rows bI)(dD:Array Value)(T:TypeId){c:c3}(ar:c≠.nil){cap:Nat}(aC:c=.full->cap=rows.length)(hle:rows.length<=cap):
 bp (w.alloc (.cells (bI.toArray++dD) T)) (Γ.imm w.heap.size (bI.toArray++dD).size) (.slice rows c) (.slice (some ⟨w.heap.size,0,none⟩) rows.length cap):=by
 have he:=Ext.uJ aB (bI.toArray++dD) T;have ey:∀i j,i<rows.length->j<sz->i*sz+j<(bI.toArray++dD).size:=fun i j hi ap=>by
  have:=ul hi ap;simp[h.1];omega
 refine .slice rows c _ 0 sz cap (fun i j=>(bI.toArray++dD).getD (i*sz+j) Go.undef) ar aC hle h.2.1 (fun i j hi ap=>?_) (fun i j hi ap=>?_) (fun i r j x al ab=>(h.2.2 i r j x al ab).1) (fun i r j x al ab=>(h.head dD i r j x al ab).2.ext he)
 . exact .inr ⟨rfl,by rw[ev];exact ey i j hi ap⟩
 . rw[ev,km (heap_alloc_new w _)]
   exact jK (ey i j hi ap)
theorem aKT{rows:List (List V)}{c:c3}{bg:Value}(h:bp w Γ (.slice rows c) bg):bp w Γ (.slice rows .cv) bg:=by
 cases h with
 |iE _ ar=>exact .iE _ (.inr rfl)
 |lE _ _ p=>exact .lE _ (by simp) p
 |slice _ _ b o sz cap bl ar aC fZ fP ak dL ax al=>exact .slice rows .cv b o sz cap bl (by simp) (by simp) fZ fP ak dL ax al
def Env.fh(Γ:Env)(id:Nat)(l:Loc)(nj:Nat->Nat->Prop):Env:={Γ with cW:=Γ.cW.set id l,S:=nj}
theorem Ext.fh{w':World}{id:Nat}{l l':Loc}{nj:Nat->Nat->Prop}(ag:Γ.cW[id]? =some l)(aj:l.box=false)(aq:l.ver<l'.ver)
 (ak:∀b o,Γ.S b o->nj b o/\k6 w' b o=k6 w b o)(sh:Below Γ.h1 w w')(aGZ:∀b o,b<Γ.h1->nj b o->Γ.S b o):Ext w Γ w' (Γ.fh id l' nj) where
 s:=ak
 cW i m hm:=by
  by_cases hi:id=i
  . subst hi
    rw[ag] at hm;simp only[aV] at hm;subst hm;have bw:id<Γ.cW.length:=(bn.1 ag).1;exact⟨l',by simp only[Env.fh];rw[eC bw],by omega,fun e=>by omega,fun e=>by rw[aj] at e;cases e⟩
  . exact⟨m,by simp only[Env.fh];rw[dx hi];exact hm,cF _,fun _=>rfl,fun _=>rfl⟩
 cq:=rfl
 below:=sh
 rL:=aGZ
theorem Good.fh(aB:Good w Γ M){w':World}{id:Nat}{l l':Loc}{nj:Nat->Nat->Prop}(ag:Γ.cW[id]? =some l)(he:Ext w Γ w' (Γ.fh id l' nj))(ce:∀k,k≠l'.b->k<w.heap.size->w'.heap[k]? =w.heap[k]?)
 (di:∀(i:Nat)(m:Loc),i≠id->Γ.cW[i]? =some m->m.live=true->m.b≠l'.b/\∀o,nj m.b o->Γ.S m.b o)(pU:Γ.h1<=l'.b)(MH:∀b o,nj b o->∃v,w'.cell? ⟨b,o,none⟩=some v)
 {B:a2}(bY:uy w' (Γ.fh id l' nj) l' B):Good w' (Γ.fh id l' nj) (M.set id B):=by
 have bw:id<Γ.cW.length:=(bn.1 ag).1;have get:∀i m,(Γ.fh id l' nj).cW[i]? =some m->(i=id/\m=l')∨(i≠id/\Γ.cW[i]? =some m):=by
  intro i m hm;simp only[Env.fh] at hm;by_cases hi:id=i
  . subst hi
    rw[eC bw] at hm;simp only[aV] at hm;exact .inl ⟨rfl,hm.symm⟩
  . rw[dx hi] at hm
    exact .inr ⟨gi hi,hm⟩
 refine⟨by simp[Env.fh,aB.len],fun i m sW hm h8=>?_,fun i m hm=>?_,fun i j jA k2 U af nc mC aj=>?_,MH,jH aB.base he.below.size,aB.ys he⟩
 . rcases get i m hm with⟨rfl,rfl⟩|⟨hi,gy⟩
   . rw[eC (by rw[<-aB.len];exact bw)] at h8
     simp only[aV] at h8;subst h8;exact bY
   . rw[dx (gi hi)] at h8
     exact(aB.eG i m sW gy h8).fJ he (fun aq=>ce _ (di i m hi gy aq).1 (aB.m0 gy aq)) (fun aq o az=>(di i m hi gy aq).2 o az)
 . rcases get i m hm with⟨_,rfl⟩|⟨_,gy⟩
   . exact pU
   . exact aB.cq i m gy
 . rcases get i jA U with⟨rfl,rfl⟩|⟨hi,w9⟩<;>rcases get j k2 af with⟨rfl,rfl⟩|⟨ap,GU⟩
   . rfl
   . exact absurd aj.symm (di j k2 ap GU mC).1
   . exact absurd aj (di i jA hi w9 nc).1
   . exact aB.inj i j jA k2 w9 GU nc mC aj
end
end Go.aQ
namespace Go.aQ
open Go.RowKit (Below)
section
variable{P:Program}{w:World}{Γ:Env}{M:Mem}{s:aH}{a:Act}{o:Oper}{v:V}
theorem aLW{rows:List (List V)}{c:c3}{bg:Value}(h:bp w Γ (.slice rows c) bg)(ar:c=.nil∨c=.full):∃p,bg=.slice p rows.length rows.length:=by
 cases h with
 |iE _ q6=>exact⟨none,rfl⟩
 |lE=>exact⟨_,rfl⟩
 |slice _ _ b of sz cap bl ty aC=>
  rcases ar with rfl|rfl
  . exact absurd rfl ty
  . rw[aC rfl];exact⟨_,rfl⟩
theorem aa0(aB:Good w Γ M){t ad e fm:TypeId}{i:TypeInfo}{dR cs bg:Value}{rows xr:List (List V)}{c:c3}{imm:Bool}{x:V}{ah:Mem}(hu:P.underlying t=some (.slice e))(kv:P.underlying ad=some (.slice fm))(hi:P.info? e=some i)(lA:i.zero=some dR)(rn:dR.cells.size=i.size)(aj:0<i.bytes)
 (kD:bp w Γ (.slice rows c) cs)(rx:bp w Γ x bg)(ob:eJ i.size M x=some xr)(h:g3 imm i.size i.bytes (.slice rows c) xr M=some (v,ah)):
 ∃bl w' Γ',(Builtin.append_ #[t,ad] t #[cs,bg]).run P w=.ok bl w'/\bp w' Γ' v bl/\Good w' Γ' ah/\Ext w Γ w' Γ':=by
 simp only[g3] at h;cases aw:(fq i.size rows&&(decide (c=.nil)||decide (c=.full))&&decide ((rows.length+xr.length)*(2*i.bytes)<=2^48)) with
 |false=>simp[aw] at h
 |true=>
  simp only[aw,cond_true] at h;simp only[b_,Bool.or_eq_true,decide_eq_true_eq] at aw;obtain⟨⟨Ty,ar⟩,n9⟩:=aw;obtain⟨p,eN⟩:=aLW kD ar;obtain⟨iD,eS,m5,a6,mA,f1⟩:=yg (P:=P) aB kD (sz:=i.size) (rows:=rows) (by simp[eJ,Ty]);obtain⟨f3,gQ,new,ba,hI,f2⟩:=yg (P:=P) aB rx ob;rw[eN] at f1;have co:=Ks (P:=P) (w:=w) (base:=p) (sCap:=rows.length) hu kv hi lA aj ba f1 f2 n9;rw[eN];by_cases zK:xr=[]
  . subst zK
    rw[if_pos (by simp)] at co;have mo:new=[]:=List.length_eq_zero_iff.1 (by rw[hI.1];simp);subst mo;have xB:(Builtin.append_ #[t,ad] t #[.slice p rows.length rows.length,bg]).run P w=.ok (.slice p rows.length rows.length) w:=by
     rw[co];cases p<;>simp[storeCells]
    rw[eN] at kD;refine⟨_,w,Γ,xB,?_⟩;cases imm with
    |true=>
     simp only[fU,aV,dX] at h;obtain⟨rfl,rfl⟩:=h;exact⟨aKT kD,aB,Ext.refl _ _⟩
    |false=>
     simp only[aV,dX] at h;obtain⟨rfl,rfl⟩:=h;exact⟨kD,aB,Ext.refl _ _⟩
  . have hlen:0<xr.length:=List.length_pos_iff.2 zK
    rw[if_neg (by omega)] at co;obtain⟨jk,fZ,co⟩:=co;have pi:=mA.append hI;have A9:m5.toArray++new.toArray=(m5++new).toArray:=by simp
    rw[A9] at co;have fD:=aB.drew;have zp:=Ext.drew w Γ;cases imm with
    |true=>
     simp only[aV,dX] at h;obtain⟨rfl,rfl⟩:=h;have fS:=VO fD (pi.ext zp) (Builtin.zeroCells dR.cells (jk -(rows.length+xr.length))) e (c:=.cv) (by simp) (cap:=jk) (by simp) (by simpa using fZ);refine⟨_,_,_,co,?_,fD.uJ _ e,zp.trans (Ext.uJ fD _ e)⟩;simpa using fS
    |false=>
     have bb:v=.aX M.length 0 0 (rows.length+xr.length)/\ah=M++[.arr i.size (rows++xr) 0 0]:=by
      cases xr with
      |nil=>exact absurd rfl zK
      |cons r rs=>
       simp only[aV,dX] at h;exact⟨h.1.symm,h.2.symm⟩
     obtain⟨rfl,rfl⟩:=bb;obtain⟨aW,a9⟩:=fD.Pz ((m5++new).toArray++Builtin.zeroCells dR.cells (jk -(rows.length+xr.length))) e i.size jk (rows++xr)
      (by simp only[Array.size_append,OG,rn,List.size_toArray,pi.1,dT];rw[<-ik,Nat.add_sub_cancel' fZ]) (by simpa using fZ) pi.2.1 (fun i r j x al ab=>(pi.ext zp).head _ i r j x al ab);exact⟨_,_,_,co,NM fD fZ,aW,zp.trans a9⟩
theorem aKh{x:V}{bg:Value}(h:bp w Γ x bg)(ab:x.kd=true):bg.oneCell'=true:=by
 cases h<;>first|rfl|(simp[V.kd] at ab;done)
theorem md.one{sz:Nat}{rows:List (List V)}{bI:List Value}(h:md w Γ sz rows bI):∀d∈bI,d.oneCell'=true:=by
 intro d aw;obtain⟨q,aG,rfl⟩:=List.getElem_of_mem aw;have rh:q<rows.length*sz:=by rw[<-h.1];exact aG
 have fP:0<sz:=by
  rcases Nat.eq_zero_or_pos sz with a4|a4
  . subst a4;simp at rh
  . exact a4
 have hi:q/sz<rows.length:=by rw[Nat.div_lt_iff_lt_mul fP];exact rh
 have ap:q%sz<(rows[q/sz]).length:=by rw[h.2.1 (q/sz) _ (gd hi)];exact Nat.mod_lt _ fP
 obtain⟨U,af⟩:=h.2.2 (q/sz) _ (q%sz) _ (gd hi) (gd ap);have e:q/sz*sz+q%sz=q:=by rw[Nat.mul_comm];exact Nat.div_add_mod q sz
 rw[e] at af;have:=aKh af U;simpa[kK,aG] using this
theorem abK(aB:Good w Γ M){id ver fz:Nat}{l:Loc}{sz:Nat}{rows:List (List V)}(ag:Γ.cW[id]? =some l)(bb:M[id]? =some (.arr sz rows ver fz)):
 Good w (Γ.fh id {l with ver:=ver+1} Γ.S) (M.set id (.arr sz rows (ver+1) fz))/\Ext w Γ w (Γ.fh id {l with ver:=ver+1} Γ.S):=by
 obtain⟨U,a4,af,ay,be,bv,b7,dQ,ch⟩:=aB.eG id l _ ag bb;have he:Ext w Γ w (Γ.fh id {l with ver:=ver+1} Γ.S):=Ext.fh ag U (by show l.ver<ver+1;omega) (fun _ _ h=>⟨h,rfl⟩) (Below.refl _ _) (fun _ _ _ h=>h);by_cases ed:l.live=true
 . refine⟨aB.fh ag he (fun _ _ _=>rfl) (fun i m hi hm aq=>⟨fun e=>hi (aB.inj i id m l hm ag aq ed e),fun _ h=>h⟩) (aB.cq id l ag) aB.jC ⟨U,a4,rfl,ay,be,bv,b7,dQ,fun aq=>?_⟩,he⟩
   obtain⟨di,c,T,ch,eL,fp⟩:=ch aq;exact⟨di,c,T,ch,eL,fun i r j x al ab=>(fp i r j x al ab).ext he⟩
 . have ed:l.live=false:=by simpa using ed
   refine⟨?_,he⟩;have sv:rows=[]:=List.length_eq_zero_iff.1 (by have:=bv ed;omega);subst sv;have bw:id<Γ.cW.length:=(bn.1 ag).1;have get:∀i m,(Γ.fh id {l with ver:=ver+1} Γ.S).cW[i]? =some m->(i=id/\m={l with ver:=ver+1})∨(i≠id/\Γ.cW[i]? =some m):=by
    intro i m hm;simp only[Env.fh] at hm;by_cases hi:id=i
    . subst hi
      rw[eC bw] at hm;simp only[aV] at hm;exact .inl ⟨rfl,hm.symm⟩
    . rw[dx hi] at hm
      exact .inr ⟨gi hi,hm⟩
   refine⟨by simp[Env.fh,aB.len],fun i m sW hm h8=>?_,fun i m hm=>?_,fun i j jA k2 dw dn nc mC aj=>?_,aB.jC,aB.base,aB.jE⟩
   . rcases get i m hm with⟨rfl,rfl⟩|⟨hi,gy⟩
     . rw[eC (by rw[<-aB.len];exact bw)] at h8
       simp only[aV] at h8;subst h8;exact⟨U,a4,rfl,ay,be,bv,b7,dQ,fun aq=>by rw[show l.live=true from aq] at ed;cases ed⟩
     . rw[dx (gi hi)] at h8
       exact(aB.eG i m sW gy h8).fJ he (fun _=>rfl) (fun _ _ h=>h)
   . rcases get i m hm with⟨_,rfl⟩|⟨_,gy⟩
     . exact aB.cq id l ag
     . exact aB.cq i m gy
   . rcases get i jA dw with⟨rfl,rfl⟩|⟨hi,w9⟩<;>rcases get j k2 dn with⟨rfl,rfl⟩|⟨ap,GU⟩
     . rfl
     . rw[show l.live=true from nc] at ed;cases ed
     . rw[show l.live=true from mC] at ed;cases ed
     . exact aB.inj i j jA k2 w9 GU nc mC aj
theorem Xb(aB:Good w Γ M){id ver:Nat}{cells:List V}{cs:Value}(bb:M[id]? =some (.vec cells ver))(kD:bp w Γ (.aX id ver 0 cells.length) cs):
 ∃(p:Option Addr)(cap:Nat)(bI:List Value),cs=.slice p cells.length cap/\bI.length=cells.length/\(∀(j:Nat)(x:V),cells[j]? =some x->bp w Γ x (bI.getD j Go.undef))/\
  ∀w',w'.heap=w.heap->(Builtin.firstCells 1 cells.length cs).run P w'=.ok bI.toArray w':=by
 cases kD with
 |aX _ _ _ _ l ag jx _ eF _=>
  obtain⟨U,a4,af,be,bv,ch⟩:=aB.eG id l _ ag bb;rcases eF af with⟨aw,a7,rfl⟩|⟨ed,fZ,of,h6,rfl,iT,hk,gz⟩
  . have ar:cells=[]:=List.length_eq_zero_iff.1 a7
    subst ar;exact⟨none,0,[],rfl,rfl,fun j x ab=>by simp at ab,fun w' _=>by simp[Builtin.firstCells]⟩
  . obtain⟨di,c,T,ch,eL,fp⟩:=ch ed
    let bI:=(c1 cells.length).map fun q=>c.getD q Go.undef
    refine⟨_,_,bI,rfl,by simp[bI],fun j x ab=>?_,fun w' gH=>?_⟩
    . have ap:=(bn.1 ab).1
      have:bI.getD j Go.undef=c.getD j Go.undef:=by
       simp only[bI,kK];rw[gY,List.getElem?_range ap];simp
      rw[this];exact fp j x ab
    . simp only[Builtin.firstCells,kN]
      refine run_loadCells w' ⟨l.b,of,none⟩ cells.length (fun q=>c.getD q Go.undef) (fun q aG=>?_);rw[Addr.lh,ta (w:=w) (w':=w') (by rw[gH])];have Mu:=gz (by omega);rw[Mu,Nat.zero_mul,ev,km ch];exact jK (by omega)
theorem PJ(aB:Good w Γ M){t ad e fm:TypeId}{i:TypeInfo}{dR cs bg:Value}{id ver:Nat}{cells:List V}{hZ:V}{ah:Mem}(hu:P.underlying t=some (.slice e))(kv:P.underlying ad=some (.slice fm))(hi:P.info? e=some i)(lA:i.zero=some dR)(rn:dR.cells.size=i.size)(aj:0<i.bytes)
 (bb:M[id]? =some (.vec cells ver))(fP:i.size=1)(kD:bp w Γ (.aX id ver 0 cells.length) cs)(ab:∃(f3:Option Addr)(gQ:Nat)(new:List Value),bg=.slice f3 1 gQ/\new.length=1/\(∀d∈new,d.oneCell'=true)/\bp w Γ hZ (new.getD 0 Go.undef)/\∀w',w'.heap=w.heap->(Builtin.firstCells i.size 1 bg).run P w'=.ok new.toArray w')(n9:(cells.length+1)*(2*i.bytes)<=2^48)
 (aq:v=.aX id (ver+1) 0 (cells.length+1))(aD4:ah=M.set id (.vec (cells++[hZ]) (ver+1))):
 ∃bl w' Γ',(Builtin.append_ #[t,ad] t #[cs,bg]).run P w=.ok bl w'/\bp w' Γ' v bl/\Good w' Γ' ah/\Ext w Γ w' Γ':=by
 subst aq aD4;obtain⟨iD,eS,m5,a6,mA,aJK,f1⟩:=Xb (P:=P) aB bb kD;obtain⟨f3,gQ,new,ba,vl,nu,l2,f2⟩:=ab;rw[a6] at f1;have co:=Ks (P:=P) (w:=w) (base:=iD) (sCap:=eS) (sLen:=cells.length) (n:=1) hu kv hi lA aj ba (by rw[fP];exact f1) f2 n9;rw[a6];have A9:m5.toArray++new.toArray=(m5++new).toArray:=by simp
 rw[a6] at kD;have Vf:∀(q:Nat)(z:V),(cells++[hZ])[q]? =some z->(q<cells.length/\cells[q]? =some z)∨(q=cells.length/\z=hZ):=fun q z a7=>by
  by_cases aG:q<cells.length
  . rw[gh aG] at a7;exact .inl ⟨aG,a7⟩
  . rw[jX (by omega)] at a7
    have:q -cells.length=0:=by have:=(bn.1 a7).1;simp at this;omega
    rw[this] at a7;simp at a7;exact .inr ⟨by omega,a7.symm⟩
 cases kD with
 |aX _ _ _ _ l ag jx _ eF _=>
  obtain⟨U,a4,af,be,bv,ch⟩:=aB.eG id l _ ag bb;have eF:=eF af;have bw:id<Γ.cW.length:=(bn.1 ag).1;by_cases lS:cells.length+1<=eS
  . rw[if_pos lS] at co
    rcases eF with⟨aw,Dg,aq⟩|⟨ed,fZ,of,h6,aq,iT,hk,gz⟩
    . simp only[Value.slice.injEq] at aq
      omega
    . simp only[Value.slice.injEq] at aq
      obtain⟨rfl,_,rfl⟩:=aq;have gz:=gz (by omega);simp only[Nat.zero_mul] at gz;subst gz;simp only[Addr.lh,ev,fP,kN] at co;obtain⟨di,c,T,ch,eL,fp⟩:=ch ed;obtain⟨w',aW,a9,bN,c5,er,eT,iy⟩:=yo (P:=P) new c cells.length 0 w ch (by omega) nu;have he:Ext w Γ w' (Γ.fh id {l with ver:=l.ver+1} Γ.S):=Ext.fh ag U (by show l.ver<l.ver+1;omega) (fun b q ak=>⟨ak,by
       by_cases nq:b=l.b
       . subst nq;exact absurd ak (di q)
       . exact v0 (bN b nq)⟩) ⟨er,eT,iy,by omega,fun k ao=>bN k (by have:=aB.cq id l ag;omega)⟩ (fun _ _ _ h=>h);have Me:(Γ.fh id {l with ver:=l.ver+1} Γ.S).cW[id]? =some {l with ver:=l.ver+1}:=by simp only[Env.fh];rw[eC bw]
      refine⟨.slice (some ⟨l.b,0,none⟩) (cells.length+1) eS,w',Γ.fh id {l with ver:=l.ver+1} Γ.S,?_,?_,?_,he⟩
      . rw[co]
        have tr:(storeCells ⟨l.b,cells.length,none⟩ new).run P w=.ok () w':=aW;rw[tr];simp
      . exact .aX _ _ _ _ {l with ver:=l.ver+1} Me (by simp[af]) _ (fun _=>.inr ⟨ed,by show 0+(cells.length+1)<=l.cap;omega,0,eS,rfl,iT,lS,fun _=>by simp⟩) rfl
      . rw[<-af]
        refine aB.fh ag he (fun k ao _=>bN k ao) (fun q m aG hm aq=>⟨fun e=>aG (aB.inj q id m l hm ag aq ed e),fun _ h=>h⟩) (aB.cq id l ag) (fun b q ak=>?_) ⟨U,a4,rfl,by simp;omega,bv,fun _=>⟨di,_,T,a9,by rw[sP];exact eL,fun q z a7=>?_⟩⟩
        . obtain⟨u,n_⟩:=aB.jC b q ak
          exact⟨u,(he.mB b q ak).2.trans n_⟩
        . rw[rJ _ _ _ _ (by omega)]
          rcases Vf q z a7 with⟨aG,MP⟩|⟨rfl,rfl⟩
          . rw[if_neg (by omega)]
            exact(fp q z MP).ext he
          . rw[if_pos (by omega),show cells.length -(cells.length+0)=0 by omega]
            exact l2.ext he
  . rw[if_neg lS] at co
    obtain⟨jk,fZ,co⟩:=co;rw[A9] at co;have fD:=aB.drew;have zp:=Ext.drew w Γ;generalize xe:(m5++new).toArray++Builtin.zeroCells dR.cells (jk -(cells.length+1))=Jf at co;have G7:Jf.size=jk:=by
     rw[<-xe];simp only[Array.size_append,OG,rn,fP,List.size_toArray,dT];omega
    let l':Loc:=⟨w.heap.size,false,true,1,jk,l.ver+1⟩
    have he:Ext w Γ (w.drew.alloc (.cells Jf e)) (Γ.fh id l' Γ.S):=Ext.fh ag U (by show l.ver<l.ver+1;omega) (fun b q ak=>⟨ak,v0 (nt w.drew _ (aB.rH ak))⟩) ((Below.refl _ _).drew.alloc aB.base _) (fun b q zm ak=>ak);refine⟨_,_,Γ.fh id l' Γ.S,co,?_,?_,he⟩
    . exact .aX _ _ _ _ l' (by simp only[Env.fh];rw[eC bw]) (by show ver+1<=l.ver+1;omega) _ (fun _=>.inr ⟨rfl,by show 0+_<=jk;omega,0,jk,rfl,by show 0+jk<=jk;omega,by omega,fun _=>by simp⟩) rfl
    . rw[<-af]
      refine aB.fh ag he (fun k _ ao=>nt w.drew _ ao) (fun q m aG hm aq=>⟨fun e=>?_,fun o' ee=>ee⟩) (by show Γ.h1<=w.heap.size;exact aB.base) (fun b q ak=>?_) ⟨rfl,rfl,rfl,by simpa using fZ,(fun aq=>by cases aq),fun _=>⟨fun q ak=>aB.vQ q ak,Jf,e,heap_alloc_new w.drew _,G7,fun q z a7=>?_⟩⟩
      . have:=aB.m0 hm aq
        rw[show m.b=w.heap.size from e] at this;omega
      . obtain⟨u,n_⟩:=aB.jC b q ak
        exact⟨u,(ta (nt w.drew _ (aB.rH ak))).trans n_⟩
      . have gr:∀q,q<cells.length+1->Jf.getD q Go.undef=(m5++new).getD q Go.undef:=fun q aG=>by
         rw[<-xe,ih,Array.getElem?_append_left (by simp;omega)];simp[kK]
        rcases Vf q z a7 with⟨aG,MP⟩|⟨rfl,rfl⟩
        . rw[gr q (by omega)]
          have:=aJK q z MP;rw[kK,gh (by omega)];exact(show bp w Γ z (m5[q]?.getD Go.undef) from this).ext he
        . rw[gr _ (by omega),kK,jX (by omega),mA,mH]
          have:=l2;simp only[kK] at this;exact this.ext he
theorem Good.cut{id z ver fz len:Nat}{rows:List (List V)}(aB:Good w Γ M)(bb:M[id]? =some (.arr z rows ver fz))(ao:fz<=len)(ag:len<=rows.length):Good w Γ (M.set id (.arr z (rows.take len) ver fz)):=by
 refine⟨by rw[eO];exact aB.len,fun i m B hm bY=>?_,aB.cq,aB.inj,aB.jC,aB.base,aB.jE⟩;have bw:id<M.length:=(bn.1 bb).1;have get:∀(i:Nat)(r:List V),(rows.take len)[i]? =some r->rows[i]? =some r:=fun i r al=>by
  have hi:i<len:=by have:=(bn.1 al).1;rw[iw] at this;omega
  rwa [hs hi] at al
 by_cases hi:id=i
 . subst hi
   rw[eC bw] at bY;simp only[aV] at bY;subst bY;obtain⟨U,a4,af,ay,be,bv,b7,dQ,ch⟩:=aB.eG id m _ hm bb;refine⟨U,a4,af,by rw[iw];omega,by rw[iw];omega,bv,fun i r al=>b7 i r (get i r al),fun i r j x al ab=>dQ i r j x (get i r al) ab,fun aq=>?_⟩;obtain⟨di,c,T,ch,eL,fp⟩:=ch aq;exact⟨di,c,T,ch,eL,fun i r j x al ab=>fp i r j x (get i r al) ab⟩
 . rw[dx hi] at bY
   exact aB.eG i m B hm bY
theorem PI(aB:Good w Γ M){t ad e fm:TypeId}{i:TypeInfo}{dR cs bg:Value}{xr rows:List (List V)}{id hP fz:Nat}(hu:P.underlying t=some (.slice e))(kv:P.underlying ad=some (.slice fm))(hi:P.info? e=some i)(lA:i.zero=some dR)(rn:dR.cells.size=i.size)(aj:0<i.bytes)
 (bb:M[id]? =some (.arr i.size rows hP fz))(n9:(rows.length+xr.length)*(2*i.bytes)<=2^48)(kD:bp w Γ (.aX id hP 0 rows.length) cs)
 (ab:∃p cap bI,bg=.slice p xr.length cap/\md w Γ i.size xr bI/\∀w',w'.heap=w.heap->(Builtin.firstCells i.size xr.length bg).run P w'=.ok bI.toArray w'):
 ∃bl w' Γ',(Builtin.append_ #[t,ad] t #[cs,bg]).run P w=.ok bl w'/\bp w' Γ' (.aX id (hP+1) 0 (rows.length+xr.length)) bl/\Good w' Γ' (M.set id (.arr i.size (rows++xr) (hP+1) fz))/\Ext w Γ w' Γ':=by
 obtain⟨iD,eS,m5,a6,mA,f1⟩:=yg (P:=P) aB kD (sz:=i.size) (rows:=rows) (by simp[eJ,bb]);obtain⟨f3,gQ,new,ba,hI,f2⟩:=ab;rw[a6] at f1;have co:=Ks (P:=P) (w:=w) (base:=iD) (sCap:=eS) hu kv hi lA aj ba f1 f2 n9;rw[a6];have pi:=mA.append hI;have A9:m5.toArray++new.toArray=(m5++new).toArray:=by simp
 rw[a6] at kD;cases kD with
 |aX _ _ _ _ l ag jx _ eF _=>
  obtain⟨U,a4,af,ay,be,bv,b7,dQ,ch⟩:=aB.eG id l _ ag bb;have eF:=eF af;have bw:id<Γ.cW.length:=(bn.1 ag).1;by_cases zK:xr=[]
  . subst zK
    have mo:new=[]:=List.length_eq_zero_iff.1 (by rw[hI.1];simp);subst mo;have lS:rows.length+([]:List (List V)).length<=eS:=by
     rcases eF with⟨aw,Dg,aq⟩|⟨ed,fZ,of,h6,aq,iT,hk,gz⟩
     . simp only[Value.slice.injEq] at aq;simp;omega
     . simp only[Value.slice.injEq] at aq;simp;omega
    rw[if_pos lS] at co;have xB:(Builtin.append_ #[t,ad] t #[.slice iD rows.length eS,bg]).run P w=.ok (.slice iD rows.length eS) w:=by
     rw[co];cases iD<;>simp[storeCells]
    obtain⟨aW,a9⟩:=abK aB ag bb;simp only[fU,gZ,iJ];refine⟨_,w,_,xB,?_,aW,a9⟩;exact .aX _ _ _ _ {l with ver:=l.ver+1} (by simp only[Env.fh];rw[af,eC bw]) (by simp[af]) _ (fun _=>eF) rfl
  . have Hs:0<xr.length:=List.length_pos_iff.2 zK
    by_cases lS:rows.length+xr.length<=eS
    . rw[if_pos lS] at co
      rcases eF with⟨aw,Dg,aq⟩|⟨ed,fZ,of,h6,aq,iT,hk,gz⟩
      . simp only[Value.slice.injEq] at aq
        omega
      . simp only[Value.slice.injEq] at aq
        obtain⟨rfl,_,rfl⟩:=aq;have gz:=gz (by omega);simp only[Nat.zero_mul] at gz;subst gz;simp only[Addr.lh,ev] at co;obtain⟨di,c,T,ch,eL,fp⟩:=ch ed;have vl:new.length=xr.length*i.size:=hI.1;have aOd:rows.length*i.size+new.length<=c.size:=by
         rw[vl,eL,a4,<-ik];exact jo _ (by omega)
        obtain⟨w',aW,a9,bN,c5,er,eT,iy⟩:=yo (P:=P) new c (rows.length*i.size) 0 w ch (by omega) hI.one;have mS:fz*l.sz<=rows.length*i.size:=by rw[a4];exact jo _ ay
        have he:Ext w Γ w' (Γ.fh id {l with ver:=l.ver+1} Γ.S):=Ext.fh ag U (by show l.ver<l.ver+1;omega) (fun b q ak=>⟨ak,by
         by_cases nq:b=l.b
         . subst nq
           have aG:=(di q).1 ak;refine NX ch a9 ?_;rw[km a9,km ch];have vh:q<c.size:=by omega
           rw[jK (by rw[sP];exact vh),jK vh,rJ _ _ _ _ (by omega),if_neg (by omega)]
         . exact v0 (bN b nq)⟩) ⟨er,eT,iy,by omega,fun k ao=>bN k (by have:=aB.cq id l ag;omega)⟩ (fun _ _ _ h=>h);have Me:(Γ.fh id {l with ver:=l.ver+1} Γ.S).cW[id]? =some {l with ver:=l.ver+1}:=by simp only[Env.fh];rw[eC bw]
        refine⟨.slice (some ⟨l.b,0,none⟩) (rows.length+xr.length) eS,w',Γ.fh id {l with ver:=l.ver+1} Γ.S,?_,?_,?_,he⟩
        . rw[co]
          have tr:(storeCells ⟨l.b,rows.length*i.size,none⟩ new).run P w=.ok () w':=aW;rw[tr];simp
        . exact .aX _ _ _ _ {l with ver:=l.ver+1} Me (by simp[af]) _ (fun _=>.inr ⟨ed,by show 0+(rows.length+xr.length)<=l.cap;omega,0,eS,rfl,iT,lS,fun _=>by simp⟩) rfl
        . rw[<-af]
          refine aB.fh ag he (fun k ao _=>bN k ao) (fun q m aG hm aq=>⟨fun e=>aG (aB.inj q id m l hm ag aq ed e),fun _ h=>h⟩) (aB.cq id l ag) (fun b q ak=>?_) ⟨U,a4,rfl,by simp;omega,by simp;omega,bv,fun q r al=>by rw[a4];exact pi.2.1 q r al,fun q r j x al ab=>(pi.2.2 q r j x al ab).1,fun _=>⟨di,_,T,a9,by rw[sP];exact eL,fun q r j x al ab=>?_⟩⟩
          . obtain⟨u,n_⟩:=aB.jC b q ak
            exact⟨u,(he.mB b q ak).2.trans n_⟩
          . show bp w' _ x ((rI c (rows.length*i.size+0) new).getD (q*l.sz+j) Go.undef)
            rw[show q*l.sz+j=q*i.size+j by rw[a4],rJ _ _ _ _ (by omega)];by_cases aG:q<rows.length
            . rw[gh aG] at al
              have ap:j<i.size:=by rw[<-a4,<-b7 q r al];exact(bn.1 ab).1
              have:=ul aG ap;rw[if_neg (by omega)];have:=fp q r j x al ab;rw[show q*l.sz+j=q*i.size+j by rw[a4]] at this;exact this.ext he
            . rw[jX (by omega)] at al
              have C8:q -rows.length<xr.length:=(bn.1 al).1;have ap:j<i.size:=by rw[<-hI.2.1 _ r al];exact(bn.1 ab).1
              have aOt:=ul C8 ap;have e:q*i.size+j=rows.length*i.size+((q -rows.length)*i.size+j):=by
               rw[<-kM,<-ik,Nat.add_sub_cancel' (by omega)]
              rw[if_pos (by omega),show q*i.size+j -(rows.length*i.size+0)=(q -rows.length)*i.size+j by omega];exact(hI.2.2 _ _ _ _ al ab).2.ext he
    . rw[if_neg lS] at co
      obtain⟨jk,fZ,co⟩:=co;rw[A9] at co;have fD:=aB.drew;have zp:=Ext.drew w Γ;generalize xe:(m5++new).toArray++Builtin.zeroCells dR.cells (jk -(rows.length+xr.length))=cells at co;have G7:cells.size=jk*i.size:=by
       rw[<-xe];simp only[Array.size_append,OG,rn,List.size_toArray,pi.1,dT];rw[<-ik,Nat.add_sub_cancel' fZ]
      let l':Loc:=⟨w.heap.size,false,true,i.size,jk,l.ver+1⟩
      let nj:Nat->Nat->Prop:=fun b q=>Γ.S b q∨(b=w.heap.size/\q<fz*i.size)
      have aOm:fz*i.size<=cells.size:=by rw[G7];exact jo _ (by omega)
      have he:Ext w Γ (w.drew.alloc (.cells cells e)) (Γ.fh id l' nj):=Ext.fh ag U (by show l.ver<l.ver+1;omega) (fun b q ak=>⟨.inl ak,v0 (nt w.drew _ (aB.rH ak))⟩) ((Below.refl _ _).drew.alloc aB.base _) (fun b q zm ak=>by
       rcases ak with ak|⟨rfl,_⟩
       . exact ak
       . have:=aB.base;omega);refine⟨_,_,Γ.fh id l' nj,co,?_,?_,he⟩
      . exact .aX _ _ _ _ l' (by simp only[Env.fh];rw[eC bw]) (by show hP+1<=l.ver+1;omega) _ (fun _=>.inr ⟨rfl,by show 0+_<=jk;omega,0,jk,rfl,by show 0+jk<=jk;omega,by omega,fun _=>by simp⟩) rfl
      . rw[<-af]
        refine aB.fh ag he (fun k _ ao=>nt w.drew _ ao) (fun q m aG hm aq=>⟨fun e=>?_,fun o' ee=>?_⟩) (by show Γ.h1<=w.heap.size;exact aB.base) (fun b q ak=>?_) ⟨rfl,rfl,rfl,by simp;omega,by simpa using fZ,(fun aq=>by cases aq),pi.2.1,fun q r j x al ab=>(pi.2.2 q r j x al ab).1,fun _=>⟨fun q=>⟨fun ak=>?_,fun ak=>.inr ⟨rfl,ak⟩⟩,cells,e,heap_alloc_new w.drew _,G7,fun q r j x al ab=>?_⟩⟩
        . have:=aB.m0 hm aq
          rw[show m.b=w.heap.size from e] at this;omega
        . rcases ee with ee|⟨zm,_⟩
          . exact ee
          . have:=aB.m0 hm aq;omega
        . rcases ak with ak|⟨rfl,ak⟩
          . obtain⟨u,n_⟩:=aB.jC b q ak
            exact⟨u,(ta (nt w.drew _ (aB.rH ak))).trans n_⟩
          . exact⟨cells.getD q Go.undef,(km (o:=q) (heap_alloc_new w.drew (.cells cells e))).trans (jK (by omega))⟩
        . rcases ak with ak|⟨_,ak⟩
          . exact absurd ak (aB.vQ q)
          . exact ak
        . have:=(pi.head (Builtin.zeroCells dR.cells (jk -(rows.length+xr.length))) q r j x al ab).2
          rw[xe] at this;exact this.ext he
theorem aaX(aB:Good w Γ M){t ad e fm:TypeId}{i:TypeInfo}{dR cs bg:Value}{xr:List (List V)}{id ver start len:Nat}{imm:Bool}{x:V}{ah:Mem}(hu:P.underlying t=some (.slice e))(kv:P.underlying ad=some (.slice fm))(hi:P.info? e=some i)(lA:i.zero=some dR)(rn:dR.cells.size=i.size)(aj:0<i.bytes)
 (kD:bp w Γ (.aX id ver start len) cs)(rx:bp w Γ x bg)(ob:eJ i.size M x=some xr)(h:g3 imm i.size i.bytes (.aX id ver start len) xr M=some (v,ah)):
 ∃bl w' Γ',(Builtin.append_ #[t,ad] t #[cs,bg]).run P w=.ok bl w'/\bp w' Γ' v bl/\Good w' Γ' ah/\Ext w Γ w' Γ':=by
 have bh:start=0:=by
  cases start with
  |zero=>rfl
  |succ k=>simp[g3] at h
 subst bh;simp only[g3] at h;split at h
 . rename_i z rows hP fz bb
   have ab:=yg (P:=P) aB rx ob;cases ar:(z==i.size&&hP==ver&&len==rows.length&&decide ((rows.length+xr.length)*(2*i.bytes)<=2^48)) with
   |true=>
    rw[ar] at h;simp only[cond_true,aV,dX] at h;obtain⟨rfl,rfl⟩:=h;simp only[b_,beq_iff_eq,decide_eq_true_eq] at ar;obtain⟨⟨⟨a7,hF⟩,hlen⟩,n9⟩:=ar;subst hF a7 hlen;exact PI aB hu kv hi lA rn aj bb n9 kD ab
   |false=>
    rw[ar] at h;simp only[cond_false] at h;obtain⟨aw,h⟩:=fe h;simp only[dX] at h;obtain⟨rfl,rfl⟩:=h;simp only[b_,beq_iff_eq,decide_eq_true_eq] at aw;obtain⟨⟨⟨⟨a7,hF⟩,hlen⟩,mS⟩,n9⟩:=aw;subst hF a7;have bw:id<M.length:=(bn.1 bb).1;have A_:(rows.take len).length=len:=by rw[iw];omega
    have:=PI (xr:=xr) (rows:=rows.take len) (aB.cut bb mS hlen) hu kv hi lA rn aj (by rw[eC bw]) (by rw[A_];exact n9) (by rw[A_];exact kD) ab;rw[List.set_set,A_] at this;exact this
 . rename_i cells hP bb
   split at h
   . rename_i hZ
     obtain⟨aw,h⟩:=fe h;simp only[dX] at h;obtain⟨rfl,rfl⟩:=h;simp only[b_,beq_iff_eq,decide_eq_true_eq] at aw;obtain⟨⟨⟨a7,hF⟩,hlen⟩,n9⟩:=aw;subst hF hlen;obtain⟨f3,gQ,new,ba,hI,f2⟩:=yg (P:=P) aB rx ob;have nu:=hI.one;rw[a7] at hI;have l2:=(hI.2.2 0 [hZ] 0 hZ rfl rfl).2;simp only[Nat.zero_mul,iJ] at l2;exact PJ aB hu kv hi lA rn aj bb a7 kD ⟨f3,gQ,new,ba,by have:=hI.1;simpa using this,nu,l2,f2⟩ n9 rfl rfl
   . cases h
 . cases h
theorem aaZ(aB:Good w Γ M){t ad e fm:TypeId}{i:TypeInfo}{dR cs bg:Value}{a x hZ v:V}{ah:Mem}(hu:P.underlying t=some (.slice e))(kv:P.underlying ad=some (.slice fm))(hi:P.info? e=some i)(lA:i.zero=some dR)(rn:dR.cells.size=i.size)(aj:0<i.bytes)
 (kD:bp w Γ a cs)(rx:bp w Γ x bg)(ab:Jj x M=some hZ)(h:EW i.size i.bytes a hZ M=some (v,ah)):
 ∃bl w' Γ',(Builtin.append_ #[t,ad] t #[cs,bg]).run P w=.ok bl w'/\bp w' Γ' v bl/\Good w' Γ' ah/\Ext w Γ w' Γ':=by
 unfold EW at h;split at h
 . rename_i id ver len
   split at h
   . rename_i cells hP bb
     obtain⟨aw,h⟩:=fe h;simp only[dX] at h;obtain⟨rfl,rfl⟩:=h;simp only[b_,beq_iff_eq,decide_eq_true_eq] at aw;obtain⟨⟨⟨a7,hF⟩,hlen⟩,n9⟩:=aw;subst hF hlen;unfold Jj at ab;split at ab
     . rename_i aOJ iH
       split at ab
       . rename_i y mC LH
         obtain⟨kY,Uh⟩:=fe ab;subst Uh;simp only[b_,beq_iff_eq] at kY;obtain⟨MN,dL⟩:=kY;subst MN;obtain⟨f3,gQ,new,ba,vl,al,f2⟩:=Xb (P:=P) aB LH rx;have pf:=al 0 _ rfl;refine PJ aB hu kv hi lA rn aj bb a7 kD ⟨f3,gQ,new,ba,vl,fun d aw=>?_,pf,by rw[a7];exact f2⟩ n9 rfl rfl;have aK:new=[new.getD 0 Go.undef]:=by
          match new,vl with
          |[z],_=>rfl
         rw[aK] at aw;simp only[ht] at aw;rw[aw];exact Un pf dL
       . cases ab
     . cases ab
   . cases h
 . cases h
end
end Go.aQ
namespace Go.aQ
open Go.RowKit (Below)
section
variable{P:Program}{w:World}{Γ:Env}{M:Mem}{s:aH}{a:Act}{o:Oper}{v:V}
theorem KP(sz:Nat):∀(n:Nat)(cs:List V)(i:Nat)(r:List V),(r9 sz n cs)[i]? =some r->i<n/\r=(cs.drop (i*sz)).take sz
 |0,cs,i,r,h=>by simp[r9] at h
 |n+1,cs,i,r,h=>by
  simp only[r9] at h;cases i with
  |zero=>simp at h;exact⟨by omega,by simpa using h.symm⟩
  |succ i=>
   obtain⟨U,af⟩:=KP sz n (cs.drop sz) i r (by simpa using h);refine⟨by omega,?_⟩;rw[af,List.drop_drop,ik,Nat.one_mul,Nat.add_comm]
theorem A2(sz:Nat):∀(n:Nat)(cs:List V),(r9 sz n cs).length=n
 |0,cs=>rfl
 |n+1,cs=>by simp[r9,A2 sz n]
theorem VN{z:List V}{lG:Array Value}(a7:ef w Γ z lG)(a4:0<z.length):∀(n:Nat),ef w Γ (rE n z) ((Array.range (n*z.length)).map (lG[·%lG.size]!)):=by
 intro n;have hlen:∀n,(rE n z).length=n*z.length:=by
  intro n;induction n with
  |zero=>simp[rE]
  |succ n bq=>simp[rE,bq,ik];omega
 have gr:∀(n j:Nat),j<n*z.length->(rE n z)[j]? =z[j%z.length]? :=by
  intro n;induction n with
  |zero=>intro j ap;simp at ap
  |succ n bq=>
   intro j ap;simp only[rE];by_cases h:j<z.length
   . rw[gh h,Nat.mod_eq_of_lt h]
   . rw[jX (by omega),bq _ (by rw[ik] at ap;omega)]
     congr 1
     exact(Nat.mod_eq_sub_mod (by omega)).symm
 refine⟨by simp[hlen],fun j x ab=>?_⟩;have ap:j<n*z.length:=by rw[<-hlen];exact(bn.1 ab).1
 rw[gr n j ap] at ab;have:=a7.2 _ _ ab;have hm:j%lG.size<lG.size:=Nat.mod_lt _ (by rw[a7.1];exact a4);rw[<-a7.1] at this;simpa[ih,ap,hm] using this
theorem Lf:∀(cP:List (Nat×Nat×V))(cells cs:List V),oX cells cP=some cs->cs.length=cells.length
 |[],cells,cs,h=>by simp only[oX,aV] at h;rw[h]
 |(off,size,x)::cP,cells,cs,h=>by
  simp only[oX] at h;split at h
  . rename_i xs _
    cases aw:(xs.length==size&&decide (off+size<=cells.length)) with
    |false=>simp[aw] at h
    |true=>
     simp only[aw,cond_true] at h;rw[Lf cP _ cs h,Jw]
  . cases h
theorem abG(aB:Good w Γ M)(ak:eh w Γ s a.tmps){t e:TypeId}{len n:Nat}{d3:Array (Nat×Operand)}{z:List V}{cP:List (Nat×Nat×aU)}(az:o.op=.buildSlice t len d3)(hu:P.underlying t=some (.slice e))(aK:e6 P e=some n)(a7:kJ P e=some z)
 (p_:z.length=n)(p3:0<n)(MI:len*n<=2^20)(e2:sH n d3.toList=some cP)(h:wD (rE len z) n len (j8 s cP)=some v):h3 P w Γ a o v M:=by
 unfold wD at h;split at h
 . rename_i cs aC
   obtain⟨ax,rfl⟩:=fe h;obtain⟨dR,vz,vy⟩:=yD a7;have vx:=(vy w Γ).1;have xH:dR.cells.size=n:=by rw[vx.1,p_]
   have fS:=VN vx (by omega) len;rw[p_] at fS;obtain⟨d,U,af⟩:=Fs (Jr ak e2) fS aC;have uU:(d3.map fun p=>(p.1,a.eval p.2)).toList=d3.toList.map fun p=>(p.1,a.eval p.2):=by simp
   have aEJ:cs.length=len*n:=by
    rw[<-af.1];have:=Lf _ _ _ aC;rw[af.1,this,fS.1.symm];simp
   have pi:md w Γ n (r9 n len cs) d.toList:=by
    refine⟨by rw[A2];simpa[aEJ] using af.1,fun i r al=>?_,fun i r j x al ab=>?_⟩
    . obtain⟨hi,rfl⟩:=KP n len cs i r al
      have:=ul (sz:=n) hi p3;have:(i+1)*n<=len*n:=jo _ hi;rw[ik] at this;simp;omega
    . obtain⟨hi,rfl⟩:=KP n len cs i r al
      have ap:j<n:=by
       have:=(bn.1 ab).1;simp at this;omega
      rw[hs ap,kL] at ab;refine⟨uI ax _ x ab,?_⟩;have:=af.2 _ x ab;simpa[ih,kK] using this
   have eF:=VO aB pi #[] e (c:=.full) (by simp) (cap:=len) (fun _=>by rw[A2]) (by rw[A2];exact cF _);simp only[Array.append_empty,A2,Array.toArray_toList] at eF;refine⟨_,_,_,?_,.inl ⟨_,rfl,eF⟩,aB.uJ d e,Ext.uJ aB d e⟩;have CI:¬(len*n>2^24):=by
    have:(2:Nat)^20<=2^24:=by decide
    omega
   simp only[execOp,az,Instr.buildSlice,Sem.run_bind,ej hu,Result.andThen_ok,gV aK,CI,if_false,Sem.run_ite,Sem.run_pure,vz];by_cases iX:len*n=0
   . rw[if_pos iX]
     have he:((Array.range (len*n)).map ((#[]:Array Value)[·%(#[]:Array Value).size]!))=((Array.range (len*n)).map (dR.cells[·%dR.cells.size]!)):=by rw[iX];simp
     simp only[Result.andThen_ok,he,uU,U,Sem.run_bind,newRow,run_newObj,Sem.run_pure];rfl
   . rw[if_neg iX]
     simp only[Result.andThen_ok,uU,U,Sem.run_bind,newRow,run_newObj,Sem.run_pure];rfl
 . cases h
theorem abH(aB:Good w Γ M)(ak:eh w Γ s a.tmps){t e:TypeId}{len n:Nat}{d3:Array (Nat×Operand)}{z:List V}{cP:List (Nat×Nat×aU)}{ah:Mem}(az:o.op=.buildSlice t len d3)(hu:P.underlying t=some (.slice e))(aK:e6 P e=some n)(a7:kJ P e=some z)
 (p_:z.length=n)(p3:n=1)(MI:len*n<=2^20)(e2:sH n d3.toList=some cP)(h:wF (rE len z) len (j8 s cP) M=some (v,ah)):h3 P w Γ a o v ah:=by
 unfold wF at h;split at h
 . rename_i cs aC
   simp only[aV,dX] at h;obtain⟨rfl,rfl⟩:=h;obtain⟨dR,vz,vy⟩:=yD a7;have vx:=(vy w Γ).1;have xH:dR.cells.size=n:=by rw[vx.1,p_]
   have fS:=VN vx (by omega) len;rw[p_] at fS;obtain⟨d,U,af⟩:=Fs (Jr ak e2) fS aC;have uU:(d3.map fun p=>(p.1,a.eval p.2)).toList=d3.toList.map fun p=>(p.1,a.eval p.2):=by simp
   have hU:d.size=len*n:=by
    rw[af.1,Lf _ _ _ aC,fS.1.symm];simp
   have de:cs.length=len:=by rw[<-af.1,hU,p3,kN]
   have he:=Ext.oN aB (.cells d e) (wz w.heap.size 1 len);have fD:Good (w.alloc (.cells d e)) (Γ.more (wz w.heap.size 1 len)) (M++[.vec cs 0]):=
    aB.oN _ _ rfl _ ⟨rfl,rfl,rfl,(by show cs.length<=len;omega),(fun aq=>by cases aq),fun _=>⟨fun o=>aB.vQ o,d,e,heap_alloc_new w _,(by show d.size=len;rw[hU,p3,kN]),fun j x ab=>(af.2 j x ab).ext he⟩⟩;refine⟨_,_,_,?_,.inl ⟨_,rfl,NM aB (w':=_) (sz:=1) (cap:=len) (cF _)⟩,fD,he⟩;have CI:¬(len*n>2^24):=by
    have:(2:Nat)^20<=2^24:=by decide
    omega
   simp only[execOp,az,Instr.buildSlice,Sem.run_bind,ej hu,Result.andThen_ok,gV aK,CI,if_false,Sem.run_ite,Sem.run_pure,vz];by_cases iX:len*n=0
   . rw[if_pos iX]
     have he:((Array.range (len*n)).map ((#[]:Array Value)[·%(#[]:Array Value).size]!))=((Array.range (len*n)).map (dR.cells[·%dR.cells.size]!)):=by rw[iX];simp
     simp only[Result.andThen_ok,he,uU,U,Sem.run_bind,newRow,run_newObj,Sem.run_pure];rfl
   . rw[if_neg iX]
     simp only[Result.andThen_ok,uU,U,Sem.run_bind,newRow,run_newObj,Sem.run_pure];rfl
 . cases h
theorem aaY(aB:Good w Γ M)(ak:eh w Γ s a.tmps){t ad e fm:TypeId}{i:TypeInfo}{imm:Bool}{x y:Operand}{df g8:aU}{ah:Mem}(az:o.op=.call ⟨.builtin .append,#[x,y],#[t,ad]⟩) (hu:P.underlying t=some (.slice e)) (kv:P.underlying ad=some (.slice fm)) (hi:P.info? e=some i) (aj:0<i.bytes)
 (a7:OH P e i.size=true) (ab:b2 x=some df) (aD:b2 y=some g8) (h:d0 imm i.size i.bytes (aN s df) (aN s g8) M=some (v,ah)):h3 P w Γ a o v ah:=by
 have rx:=d4 ak ab;have hN:=d4 ak aD;have lA:∃dR,i.zero=some dR/\dR.cells.size=i.size:=by
  unfold OH kJ at a7;rw[hi] at a7;cases Uj:i.zero with
  |none=>simp[Uj] at a7
  |some dR=>
   refine⟨dR,rfl,?_⟩;simp only[Uj] at a7;split at a7
   . rename_i z de
     have:=(Fb (w:=w) (Γ:=Γ) de).1;simp only[Array.length_toList,beq_iff_eq] at this a7;omega
   . cases a7
 obtain⟨dR,lA,xH⟩:=lA;unfold d0 at h;split at h
 . rename_i xr ob
   have key:∃bl w' Γ',(Builtin.append_ #[t,ad] t #[a.eval x,a.eval y]).run P w=.ok bl w'/\bp w' Γ' v bl/\Good w' Γ' ah/\Ext w Γ w' Γ':=by
    generalize aq:aN s df=q at rx h;cases q with
    |slice rows c=>exact aa0 aB hu kv hi lA xH aj rx hN ob h
    |aX id ver start len=>exact aaX aB (imm:=imm) hu kv hi lA xH aj rx hN ob h
    |_=>simp[g3] at h
   obtain⟨bl,w',Γ',U,af,ay,be⟩:=key;refine⟨_,w',Γ',?_,.inl ⟨bl,rfl,af⟩,ay,be⟩;have gm:(Builtin.append_ #[t,ad] o.type #[a.eval x,a.eval y]).run P w=.ok bl w':=U;simp only[execOp,az,resolve,Sem.run_bind,Sem.run_pure,Result.andThen_ok,invoke,builtin];simp only[List.map_toArray,hQ,lb];simp only[gm,Result.andThen_ok]
 . split at h
   . rename_i hZ l2
     obtain⟨bl,w',Γ',U,af,ay,be⟩:=aaZ (P:=P) aB hu kv hi lA xH aj rx hN l2 h;refine⟨_,w',Γ',?_,.inl ⟨bl,rfl,af⟩,ay,be⟩;have gm:(Builtin.append_ #[t,ad] o.type #[a.eval x,a.eval y]).run P w=.ok bl w':=U;simp only[execOp,az,resolve,Sem.run_bind,Sem.run_pure,Result.andThen_ok,invoke,builtin];simp only[List.map_toArray,hQ,lb];simp only[gm,Result.andThen_ok]
   . cases h
end
end Go.aQ
namespace Go.aQ
open Go.RowKit (Below)
def vM:TypeDesc->Option fx
 |.bool=>some .bool
 |.int _=>some .int
 |.string=>some .str
 |_=>none
section
variable{P:Program}{w:World}{Γ:Env}{M:Mem}{s:aH}{a:Act}{o:Oper}{v:V}
theorem Us{t:TypeId}{c:fx}(h:l4 P t=some c):∃d,P.underlying t=some d/\vM d=some c:=by
 unfold l4 at h;split at h<;>simp only[aV,reduceCtorEq] at h<;>subst h
 . rename_i hu;exact⟨_,hu,rfl⟩
 . rename_i k hu;exact⟨_,hu,rfl⟩
 . rename_i hu;exact⟨_,hu,rfl⟩
theorem abN(p q:List UInt8):((⟨p.toArray⟩:ByteArray)==⟨q.toArray⟩)=decide (p=q):=by
 by_cases h:p=q
 . subst h
   simp only[decide_true];exact(Go.MapKept.bytes_beq _ _).2 rfl
 . simp only[h,decide_false]
   cases aj:((⟨p.toArray⟩:ByteArray)==⟨q.toArray⟩) with
   |false=>rfl
   |true=>
    have:=(Go.MapKept.bytes_beq _ _).1 aj;simp only[rU.injEq] at this;exact absurd (by simpa using this) h
theorem JC{d:TypeDesc}{c:fx}(aw:vM d=some c){x y:V}{bg dd:Value}(ab:bp w Γ x bg)(aD:bp w Γ y dd){b:Bool}(h:hA c x y=some b):
 Instr.sameNow d bg dd=some b/\(b=true->bg=dd):=by
 unfold hA at h;split at h
 . rename_i k p dj q
   obtain⟨e,rfl⟩:=fe h;simp only[decide_eq_true_eq] at e;subst e;rw[kf ab,kf aD];cases d<;>simp[vM] at aw;simp only[Instr.sameNow,if_pos];exact⟨by congr 1,fun aj=>by simp only[decide_eq_true_eq] at aj;rw[aj]⟩
 . rename_i p q
   simp only[aV] at h;subst h;rw[qs ab rfl,qs aD rfl];cases d<;>simp[vM] at aw;simp only[Instr.sameNow];exact⟨by cases p<;>cases q<;>rfl,fun aj=>by simp only[decide_eq_true_eq] at aj;rw[aj]⟩
 . rename_i p q
   simp only[aV] at h;subst h;rw[rF ab,rF aD];cases d<;>simp[vM] at aw;simp only[Instr.sameNow,abN];exact⟨trivial,fun aj=>by simp only[decide_eq_true_eq] at aj;rw[aj]⟩
 . cases h
theorem az8{kt:TypeId}{d:TypeDesc}{c:fx}(hu:P.underlying kt=some d)(aw:vM d=some c)(b:Bool)(n:Nat)(v:Value)(w':World):(Instr.checkKey b (n+1) kt v).run P w'=.ok () w':=by
 unfold Instr.checkKey;simp only[Sem.run_bind,ej hu,Result.andThen];cases d<;>simp[vM] at aw<;>rfl
theorem yX{kt:TypeId}{c:fx}(h:l4 P kt=some c)(b:Bool)(n:Nat)(v:Value)(w':World):(Instr.checkKey b (n+1) kt v).run P w'=.ok () w':=by
 obtain⟨d,hu,aw⟩:=Us h;exact az8 hu aw b n v w'
theorem az4{cu og:List fx}{xs bG:List V}{b:Bool}(h:gw (cu++og) xs bG=some b):
 ∃c4 dF,gw cu xs bG=some c4/\gw og (xs.drop cu.length) (bG.drop cu.length)=some dF/\b=(c4&&dF):=by
 induction cu generalizing xs bG b with
 |nil=>exact⟨true,b,by cases xs<;>rfl,by simpa using h,rfl⟩
 |cons c cu bq=>
  obtain⟨x,nU,y,nd,c4,dF,rfl,rfl,U,af,rfl⟩:=wI h;obtain⟨d1,d2,aW,a9,rfl⟩:=bq af;refine⟨c4&&d1,d2,?_,a9,by rw[Bool.and_assoc]⟩;show(match hA c x y,gw cu nU nd with|some b,some d=>some (b&&d)|_,_=>none)=_;rw[U,aW]
theorem NB{t:TypeId}{m:Nat}(bk:j4 P t=some true)(aK:e6 P t=some m){xs:List V}{cs:Array Value}(al:ef w Γ xs cs){n:Nat}(h:n+m<=xs.length):
 ∃sub:Array Value,ef w Γ ((xs.drop n).take m) sub/\∀w',(part t cs n).run P w'=.ok (.agg sub) w':=by
 refine⟨cs.extract n (n+m),⟨?_,fun j x ab=>?_⟩,fun w'=>by simp[part,vI bk,gV aK]⟩
 . have:=al.1
   simp[this];omega
 . have ap:j<m:=by
    have:=(bn.1 ab).1;simp at this;omega
   rw[hs ap,kL] at ab;have U:=al.2 _ _ ab;have e:(cs.extract n (n+m)).getD j Go.undef=cs.getD (n+j) Go.undef:=by
    have bw:n+j<cs.size:=by rw[al.1];exact(bn.1 ab).1
    rw[ih,ih,Array.getElem?_extract,if_pos (by omega)]
   rw[e];exact U
theorem az6{cu:List fx}:∀{xs bG:List V}{b:Bool},gw cu xs bG=some b->gw cu (xs.take cu.length) (bG.take cu.length)=some b:=by
 induction cu with
 |nil=>intro xs bG b h;cases xs<;>exact h
 |cons c cu bq=>
  intro xs bG b h;obtain⟨x,nU,y,nd,c4,dF,rfl,rfl,U,af,rfl⟩:=wI h;show(match hA c x y,gw cu (nU.take cu.length) (nd.take cu.length) with|some b,some d=>some (b&&d)|_,_=>none)=_;rw[U,bq af]
theorem az5{cu:List fx}:∀{xs bG:List V}{b:Bool},gw cu xs bG=some b->cu.length<=xs.length/\cu.length<=bG.length:=by
 induction cu with
 |nil=>intro xs bG b _;exact⟨fG _,fG _⟩
 |cons c cu bq=>
  intro xs bG b h;obtain⟨x,nU,y,nd,c4,dF,rfl,rfl,U,af,rfl⟩:=wI h;have:=bq af;simp only[dz];omega
theorem MV(d:Nat){xs bG:List V}{bg dd:Array Value}(ab:ef w Γ xs bg)(aD:ef w Γ bG dd)(w':World):∀(bO:List Field)(n:Nat)(cu:List fx)(b:Bool),vL P n bO=some cu->gw cu (xs.drop n) (bG.drop n)=some b->
 (Op.eqFields (d+1+1) bg dd bO).run P w'=.ok b w'
 |[],n,cu,b,aC,h=>by
  simp only[vL,aV] at aC;subst aC;simp only[gw,aV] at h;subst h;simp[Op.eqFields]
 |f::bO,n,cu,b,aC,h=>by
  simp only[vL] at aC;split at aC
  . rename_i pb
    simp only[b_,bne_iff_ne,ne_eq,beq_iff_eq] at pb;split at aC
    . rename_i k ao
      split at aC<;>simp only[aV,reduceCtorEq] at aC;rename_i og hD o3;subst aC;obtain⟨x,nU,y,nd,c4,dF,a6,ba,U,af,rfl⟩:=wI h;have aW:xs[n]? =some x:=by have:=congrArg (·[0]?) a6;simpa using this
      have a9:bG[n]? =some y:=by have:=congrArg (·[0]?) ba;simpa using this
      have d1:xs.drop (n+1)=nU:=by have:=congrArg (List.drop 1) a6;simpa[Nat.add_comm] using this
      have d2:bG.drop (n+1)=nd:=by have:=congrArg (List.drop 1) ba;simpa[Nat.add_comm] using this
      have bq:=MV d ab aD w' bO (n+1) og dF o3 (by rw[d1,d2];exact af);have iV:=MZ ao (ab.2 _ _ aW) (aD.2 _ _ a9) U (d+1) w';simp only[Op.eqFields,pb,ne_eq,not_false_eq_true,if_true,Sem.run_bind,sG hD ab aW,sG hD aD a9,Result.andThen_ok,iV,Sem.run_ite,bq];cases c4<;>simp
    . split at aC
      . rename_i gs m hu aK hD
        split at aC
        . rename_i Uu M3 aB o3
          split at aC<;>simp only[aV,reduceCtorEq] at aC;rename_i hm;simp only[b_,beq_iff_eq,lH,decide_eq_true_eq] at hm;subst aC;obtain⟨c4,dF,U,af,rfl⟩:=az4 h;obtain⟨cU,eW⟩:=az5 U;rw[List.length_drop] at cU eW;have bq:=MV d ab aD w' bO (n+m) M3 dF o3 (by rw[hm.1.1] at af;rw[<-List.drop_drop,<-List.drop_drop];exact af);obtain⟨KX,i4,iD⟩:=NB hD aK ab (n:=n) (by omega);obtain⟨QL,r2,f3⟩:=NB hD aK aD (n:=n) (by omega);have ak:(Op.equalIn (d+1+1) f.type (.agg KX) (.agg QL)).run P w'=.ok c4 w':=by
           have e:P.fieldsOf f.type=gs:=by simp[Program.fieldsOf,hu]
           rw[run_equalIn_struct w' (d+1) f.type KX QL (by rw[e];exact hu) hm.2,e];have ay:=az6 U;rw[hm.1.1] at ay;exact Le d i4 r2 w' gs.toList 0 Uu c4 aB (by simpa using ay)
          simp only[Op.eqFields,pb,ne_eq,not_false_eq_true,if_true,Sem.run_bind,iD,f3,Result.andThen_ok,ak,Sem.run_ite,bq];cases c4<;>simp
        . cases aC
      . cases aC
  . cases aC
theorem aHS{kt:TypeId}{cu:List fx}(ar:nC P kt=some (.cells cu)){xs bG:List V}{bg dd:Array Value}(ab:ef w Γ xs bg)(aD:ef w Γ bG dd){b:Bool}(h:gw cu xs bG=some b)(w':World):
 (Op.equal kt (.agg bg) (.agg dd)).run P w'=.ok b w':=by
 rw[wS];unfold nC at ar;split at ar
 . cases ar
 . cases ar
 . cases ar
 . split at ar
   . rename_i bO hu
     split at ar
     . rename_i og aC
       split at ar<;>simp only[aV,reduceCtorEq,fl.cells.injEq] at ar;rename_i ax;subst ar;have e:P.fieldsOf kt=bO:=by simp[Program.fieldsOf,hu]
       rw[run_equalIn_struct w' 9999 kt bg dd (by rw[e];exact hu) (by simpa using ax),e];exact MV 9997 ab aD w' bO.toList 0 og b aC (by simpa using h)
     . cases ar
   . rename_i n e hu
     split at ar
     . rename_i k ao hD
       split at ar<;>simp only[aV,reduceCtorEq,fl.cells.injEq] at ar;rename_i aK;subst ar;exact Q2 hu ao hD (by simpa using aK) ab aD h w'
     . cases ar
   . cases ar
theorem Qv(b:Bool)(d:Nat){xs:List V}{bg:Array Value}(ab:ef w Γ xs bg)(w':World):∀(bO:List Field)(n:Nat)(cu:List fx),sO P n bO=some cu->n+cu.length<=xs.length->
 (forIn bO PUnit.unit fun(f:Field)(_:PUnit)=>(do
   if f.name≠ "_" then Instr.checkKey b (d+1) f.type (<-part f.type bg f.offset)
   pure (ForInStep.yield PUnit.unit):Sem (ForInStep PUnit))).run P w'=.ok PUnit.unit w'
 |[],n,cu,_,_=>by simp
 |f::bO,n,cu,aC,ag=>by
  simp only[sO] at aC;split at aC
  . rename_i k og ao hD o3
    split at aC<;>simp only[aV,reduceCtorEq] at aC;rename_i pb;simp only[b_,bne_iff_ne,ne_eq,beq_iff_eq] at pb;subst aC;simp only[dz] at ag;have aW:xs[n]? =some (xs[n]'(by omega)):=by simp
    have bq:=Qv b d ab w' bO (n+1) og o3 (by omega);simp only[List.forIn_cons,Sem.run_bind,pb,ne_eq,not_false_eq_true,if_true,sG hD ab aW,Result.andThen_ok,yX ao,Sem.run_pure];exact bq
  . cases aC
theorem aAb{t:TypeId}{bO:Array Field}(hu:P.underlying t=some (.struct bO)){cu:List fx}(aC:sO P 0 bO.toList=some cu)(b:Bool)(d:Nat){xs:List V}{bg:Array Value}(ab:ef w Γ xs bg)(ag:cu.length<=xs.length)(w':World):
 (Instr.checkKey b (d+1+1) t (.agg bg)).run P w'=.ok () w':=by
 rw[Instr.checkKey];simp only[Sem.run_bind,ej hu,Result.andThen_ok];rw[<-Array.forIn_toList];have:=Qv b d ab w' bO.toList 0 cu aC (by omega);simp at this⊢;rw[this];rfl
theorem KO(b:Bool)(d:Nat){xs:List V}{bg:Array Value}(ab:ef w Γ xs bg)(w':World):∀(bO:List Field)(n:Nat)(cu:List fx),vL P n bO=some cu->n+cu.length<=xs.length->
 (forIn bO PUnit.unit fun(f:Field)(_:PUnit)=>(do
   if f.name≠ "_" then Instr.checkKey b (d+1+1) f.type (<-part f.type bg f.offset)
   pure (ForInStep.yield PUnit.unit):Sem (ForInStep PUnit))).run P w'=.ok PUnit.unit w'
 |[],n,cu,_,_=>by simp
 |f::bO,n,cu,aC,ag=>by
  simp only[vL] at aC;split at aC
  . rename_i pb
    simp only[b_,bne_iff_ne,ne_eq,beq_iff_eq] at pb;split at aC
    . rename_i k ao
      split at aC<;>simp only[aV,reduceCtorEq] at aC;rename_i og hD o3;subst aC;simp only[dz] at ag;have aW:xs[n]? =some (xs[n]'(by omega)):=by simp
      have bq:=KO b d ab w' bO (n+1) og o3 (by omega);simp only[List.forIn_cons,Sem.run_bind,pb,ne_eq,not_false_eq_true,if_true,sG hD ab aW,Result.andThen_ok,yX ao,Sem.run_pure];exact bq
    . split at aC
      . rename_i gs m hu aK hD
        split at aC
        . rename_i Uu M3 aB o3
          split at aC<;>simp only[aV,reduceCtorEq] at aC;rename_i hm;simp only[b_,beq_iff_eq,lH,decide_eq_true_eq] at hm;subst aC;rw[dT] at ag;obtain⟨KX,i4,iD⟩:=NB hD aK ab (n:=n) (by omega);have ak:=aAb hu aB b d i4 (by simp;omega) w';have bq:=KO b d ab w' bO (n+m) M3 o3 (by omega);simp only[List.forIn_cons,Sem.run_bind,pb,ne_eq,not_false_eq_true,if_true,iD,Result.andThen_ok,ak,Sem.run_pure];exact bq
        . cases aC
      . cases aC
  . cases aC
theorem Kt:∀{cu:List fx}{xs:List V},wy cu xs=true->cu.length=xs.length
 |[],[],_=>rfl
 |[],_::_,h=>by cases h
 |_::_,[],h=>by cases h
 |c::cu,x::xs,h=>by
  simp only[wy,b_] at h;simp[Kt h.2]
theorem Qu{e:TypeId}{k:fx}(ao:l4 P e=some k)(hD:j4 P e=some false)(aK:e6 P e=some 1)(b:Bool)(d:Nat){xs:List V}{bg:Array Value}(ab:ef w Γ xs bg)(w':World):
 ∀(m n:Nat),n+m<=xs.length->(forIn (List.range' n m) PUnit.unit fun(i:Nat)(_:PUnit)=>(do
  Instr.checkKey b (d+1) e (<-part e bg (i*(<-sizeOf e)))
  pure (ForInStep.yield PUnit.unit):Sem (ForInStep PUnit))).run P w'=.ok PUnit.unit w'
 |0,n,_=>by simp
 |m+1,n,h=>by
  have aW:xs[n]? =some (xs[n]'(by omega)):=by simp
  have bq:=Qu ao hD aK b d ab w' m (n+1) (by omega);rw[List.range'_succ,List.forIn_cons];simp only[Sem.run_bind,gV aK,kN,sG hD ab aW,Result.andThen_ok,yX ao,Sem.run_pure];exact bq
theorem xS{c:fx}{x:V}(h:vJ c x=true):x.vK=true:=by
 unfold vJ at h;split at h<;>first|rfl|cases h
theorem MX{c:List fx}{key:V}{fB:Value}(h:kw (.cells c) key=true)(ao:bp w Γ key fB):∃xs bg,key=.agg xs/\fB=.agg bg/\ef w Γ xs bg/\wy c xs=true:=by
 cases key<;>simp only[kw,i_] at h;cases ao with
 |agg _ bg ag al=>exact⟨_,bg,rfl,rfl,⟨ag,al⟩,h⟩
theorem uO{kt:TypeId}{c:fl}(ar:nC P kt=some c)(b:Bool){key:V}{fB:Value}(jh:kw c key=true)(ao:bp w Γ key fB)(w':World):(Instr.checkKey b 10000 kt fB).run P w'=.ok () w':=by
 unfold nC at ar;split at ar
 . rename_i iW;exact yX iW b 9999 fB w'
 . rename_i iW;exact yX iW b 9999 fB w'
 . rename_i iW;exact yX iW b 9999 fB w'
 . split at ar
   . rename_i bO hu
     split at ar
     . rename_i cu aC
       split at ar<;>simp only[aV,reduceCtorEq] at ar;subst ar;obtain⟨xs,bg,rfl,rfl,al,bk⟩:=MX jh ao;rw[Instr.checkKey];simp only[Sem.run_bind,ej hu,Result.andThen_ok];rw[<-Array.forIn_toList];have:=KO b 9997 al w' bO.toList 0 cu aC (by have:=Kt bk;omega);simp at this⊢;rw[this];rfl
     . cases ar
   . rename_i n e hu
     split at ar
     . rename_i k iW hD
       split at ar<;>simp only[aV,reduceCtorEq] at ar;rename_i aK;subst ar;obtain⟨xs,bg,rfl,rfl,al,bk⟩:=MX jh ao;rw[Instr.checkKey];simp only[Sem.run_bind,ej hu,Result.andThen_ok];rw[Std.Legacy.Range.forIn_eq_forIn_range'];have gm:[:n].size=n:=by simp[Std.Legacy.Range.size]
       rw[gm];have:=Qu iW hD (by simpa using aK) b 9998 al w' n 0 (by have:=Kt bk;simp at this;omega);simp at this⊢;rw[this];rfl
     . cases ar
   . cases ar
theorem JE{x:V}{bg:Value}(h:x.vK=true)(al:bp w Γ x bg)(n:Nat):Instr.sameBits n bg bg=true:=by
 cases x<;>simp only[V.vK,i_] at h
 . rw[qs al rfl];cases n<;>simp[Instr.sameBits]
 . rw[kf al];cases n<;>simp[Instr.sameBits]
 . rw[rF al]
   cases n<;>(simp only[Instr.sameBits];exact(Go.MapKept.bytes_beq _ _).2 rfl)
theorem Ku:∀{cu:List fx}{xs:List V},wy cu xs=true->∀(j:Nat)(x:V),xs[j]? =some x->x.vK=true
 |[],[],_,j,x,h=>by simp at h
 |[],_::_,h,_,_,_=>by cases h
 |_::_,[],h,_,_,_=>by cases h
 |c::cu,y::xs,h,j,x,ab=>by
  simp only[wy,b_] at h;cases j with
  |zero=>simp at ab;subst ab;exact xS h.1
  |succ j=>exact Ku h.2 j x (by simpa using ab)
theorem aLs{c:fl}{key:V}(h:kw c key=true){fB:Value}(ao:bp w Γ key fB):Instr.sameBits 10000 fB fB=true:=by
 cases c with
 |cells cu=>
  obtain⟨xs,bg,rfl,rfl,al,bk⟩:=MX h ao;simp only[Instr.sameBits,beq_self_eq_true,Bool.true_and,List.all_eq_true];rintro⟨p,q⟩ pd;obtain⟨j,ap,e⟩:=List.getElem_of_mem pd;simp only[List.getElem_zip,dX] at e;obtain⟨rfl,rfl⟩:=e;have bw:j<bg.size:=by simpa using ap
  have tL:j<xs.length:=by rw[<-al.1];exact bw
  have ab:xs[j]? =some xs[j]:=by simp[tL]
  have U:=al.2 j _ ab;have a6:bg.getD j Go.undef=bg[j]:=by simp[Array.getD,bw]
  rw[a6] at U;simpa using JE (Ku bk j _ ab) U 9999
 |bool=>exact JE (xS h) ao _
 |int=>exact JE (xS h) ao _
 |str=>exact JE (xS h) ao _
theorem Uo{c:fl}{key:V}(h:kw c key=true):key.qc=true:=by
 cases c with
 |cells cu=>
  cases key<;>simp only[kw,i_] at h;rename_i xs;simp only[V.qc,List.all_eq_true];intro x ab;obtain⟨j,ap,e⟩:=List.getElem_of_mem ab;exact Ku h j x (by simp[<-e,ap])
 |bool=>have:=xS h;cases key<;>first|exact this|cases h
 |int=>have:=xS h;cases key<;>first|exact this|cases h
 |str=>have:=xS h;cases key<;>first|exact this|cases h
end
end Go.aQ
namespace Go.aQ
open Go.RowKit (Below)
section
variable{P:Program}{w:World}{Γ:Env}{M:Mem}{s:aH}{a:Act}{o:Oper}{v:V}
def sZ(w:World)(Γ:Env)(l:List MapEntry)(es:List (V×V)):Prop:=
 l.length=es.length/\∀(i:Nat)(e:MapEntry)(cx:V×V),l[i]? =some e->es[i]? =some cx->bp w Γ cx.1 e.key/\bp w Γ cx.2 e.val
theorem sZ.tail{e:MapEntry}{l:List MapEntry}{cx:V×V}{es:List (V×V)}(h:sZ w Γ (e::l) (cx::es)):sZ w Γ l es:=
 ⟨by simpa using h.1,fun i fm aHW U af=>h.2 (i+1) fm aHW (by simpa using U) (by simpa using af)⟩
theorem Fa{c:fx}{x y:V}(h:hA c x y=some true){bg dd:Value}(ab:bp w Γ x bg)(aD:bp w Γ y dd):bg=dd:=by
 cases c with
 |bool=>exact(JC (d:=.bool) rfl ab aD h).2 rfl
 |int=>exact(JC (d:=.int .i64) rfl ab aD h).2 rfl
 |str=>exact(JC (d:=.string) rfl ab aD h).2 rfl
theorem az7:∀{cu:List fx}{xs bG:List V},gw cu xs bG=some true->xs.length=cu.length->bG.length=cu.length->
 ∀{bg dd:Array Value},ef w Γ xs bg->ef w Γ bG dd->bg=dd:=by
 intro cu xs bG h UH aIP bg dd ab aD;have key:∀{cu:List fx}{xs bG:List V},gw cu xs bG=some true->xs.length=cu.length->∀(j:Nat)(x:V),xs[j]? =some x->∃c y,bG[j]? =some y/\hA c x y=some true:=by
  intro cu;induction cu with
  |nil=>intro xs bG _ ag j x ap;simp at ag;subst ag;simp at ap
  |cons c cu bq=>
   intro xs bG h ag j x ap;obtain⟨AE,nU,Es,nd,c4,dF,rfl,rfl,U,af,aj⟩:=wI h;have mh:=aj.symm;simp only[b_] at mh;rw[mh.1] at U;rw[mh.2] at af;cases j with
   |zero=>simp at ap;subst ap;exact⟨c,Es,rfl,U⟩
   |succ j=>
    obtain⟨c0,y,dw,dn⟩:=bq af (by simpa using ag) j x (by simpa using ap);exact⟨c0,y,by simpa using dw,dn⟩
 apply Array.ext
 . rw[ab.1,aD.1,UH,aIP]
 . intro j U af
   have bw:j<xs.length:=by rw[<-ab.1];exact U
   obtain⟨c,y,dw,dn⟩:=key h UH j xs[j] (by simp[bw]);have e:=Fa dn (ab.2 j xs[j] (by simp[bw])) (aD.2 j y dw);simpa[Array.getD,U,af] using e
theorem aHT{kt:TypeId}{c:fl}(ar:nC P kt=some c){key k:V}{fB dd:Value}(ao:bp w Γ key fB)(aD:bp w Γ k dd){b:Bool}(h:hV c key k=some b):b=true->fB=dd:=by
 intro aj;subst aj;cases c with
 |bool=>exact Fa h ao aD
 |int=>exact Fa h ao aD
 |str=>exact Fa h ao aD
 |cells cu=>
  cases key<;>cases k<;>simp only[hV,reduceCtorEq] at h;rename_i xs bG;obtain⟨ag,h⟩:=qW h;simp only[b_,beq_iff_eq] at ag;cases ao with
  |agg _ bg tL pj=>
   cases aD with
   |agg _ dd xn p6=>
    rw[az7 h ag.1 ag.2 ⟨tL,pj⟩ ⟨xn,p6⟩]
theorem Rn{d:TypeDesc}{c:fl}(ak:∀{x y:V}{bg dd:Value}{b:Bool},bp w Γ x bg->bp w Γ y dd->hV c x y=some b->Instr.sameNow d bg dd=some b){key:V}{fB:Value}(ao:bp w Γ key fB):∀(l:List MapEntry)(es:List (V×V))(n:Nat),sZ w Γ l es->nD c key es=true->
 (hH c key es n=none/\Instr.findNow d fB l n=some none)∨∃j e,hH c key es n=some (n+j)/\l[j]? =some e/\Instr.findNow d fB l n=some (some (n+j,e.val))
 |[],[],n,_,_=>.inl ⟨rfl,rfl⟩
 |[],cx::es,n,h,_=>by have:=h.1;simp at this
 |e::l,[],n,h,_=>by have:=h.1;simp at this
 |e::l,(k,y)::es,n,h,bR=>by
  simp only[nD,b_] at bR;obtain⟨i4,_⟩:=h.2 0 e (k,y) rfl rfl;obtain⟨b,aj⟩:=Option.isSome_iff_exists.1 bR.1;have dw:=ak ao i4 aj;cases b with
  |true=>exact .inr ⟨0,e,by simp[hH,aj],rfl,by simp[Instr.findNow,dw]⟩
  |false=>
   rcases Rn ak ao l es (n+1) h.tail bR.2 with⟨aW,a9⟩|⟨j,fm,aW,a9,bN⟩
   . exact .inl ⟨by simp[hH,aj,aW],by simp[Instr.findNow,dw,a9]⟩
   . exact .inr ⟨j+1,fm,by simp[hH,aj,aW];omega,by simpa using a9,by simp[Instr.findNow,dw,bN];omega⟩
theorem Rl{kt:TypeId}{c:fl}(ak:∀{x y:V}{bg dd:Value}{b:Bool},bp w Γ x bg->bp w Γ y dd->hV c x y=some b->∀w',(Op.equal kt bg dd).run P w'=.ok b w'){key:V}{fB:Value}(ao:bp w Γ key fB)(w':World):∀(l:List MapEntry)(es:List (V×V))(n:Nat),sZ w Γ l es->nD c key es=true->
 (hH c key es n=none/\(Instr.findAsking kt fB l n).run P w'=.ok none w')∨∃j e,hH c key es n=some (n+j)/\l[j]? =some e/\(Instr.findAsking kt fB l n).run P w'=.ok (some (n+j,e.val)) w'
 |[],[],n,_,_=>.inl ⟨rfl,by simp[Instr.findAsking]⟩
 |[],cx::es,n,h,_=>by have:=h.1;simp at this
 |e::l,[],n,h,_=>by have:=h.1;simp at this
 |e::l,(k,y)::es,n,h,bR=>by
  simp only[nD,b_] at bR;obtain⟨i4,_⟩:=h.2 0 e (k,y) rfl rfl;obtain⟨b,aj⟩:=Option.isSome_iff_exists.1 bR.1;have dw:=ak ao i4 aj w';cases b with
  |true=>exact .inr ⟨0,e,by simp[hH,aj],rfl,by simp[Instr.findAsking,dw]⟩
  |false=>
   rcases Rl ak ao w' l es (n+1) h.tail bR.2 with⟨aW,a9⟩|⟨j,fm,aW,a9,bN⟩
   . exact .inl ⟨by simp[hH,aj,aW],by simp[Instr.findAsking,dw,a9]⟩
   . exact .inr ⟨j+1,fm,by simp[hH,aj,aW];omega,by simpa using a9,by simp[Instr.findAsking,dw,bN];omega⟩
theorem x3{c:fl}{key:V}:∀(es:List (V×V))(n:Nat),(hH c key es n=none->rr c key es=none/\∀x,oi c key x es=es++[(key,x)])/\
 ∀i,hH c key es n=some (n+i)->∃k y,es[i]? =some (k,y)/\rr c key es=some y/\(hV c key k).getD false=true/\∀x,oi c key x es=es.set i (key,x)
 |[],n=>⟨fun _=>⟨rfl,fun _=>rfl⟩,fun i h=>by simp[hH] at h⟩
 |(k,y)::es,n=>by
  obtain⟨aHx,aHy⟩:=x3 (c:=c) (key:=key) es (n+1);cases aj:(hV c key k).getD false with
  |true=>
   refine⟨fun h=>by simp[hH,aj] at h,fun i h=>?_⟩;simp[hH,aj] at h;subst h;exact⟨k,y,rfl,by simp[rr,aj],aj,fun x=>by simp[oi,aj]⟩
  |false=>
   refine⟨fun h=>?_,fun i h=>?_⟩
   . simp only[hH,aj,cond_false] at h
     obtain⟨dw,dn⟩:=aHx h;exact⟨by simp[rr,aj,dw],fun x=>by simp[oi,aj,dn]⟩
   . simp only[hH,aj,cond_false] at h
     have hi:∃eI,i=eI+1:=by
      cases i with
      |zero=>
       exfalso;have:∀(es:List (V×V))(m q:Nat),hH c key es m=some q->m<=q:=by
        intro es;induction es with
        |nil=>intro m q h;simp[hH] at h
        |cons cx es bq=>
         intro m q h;obtain⟨dj,g8⟩:=cx;simp only[hH] at h;cases mh:(hV c key dj).getD false with
         |true=>rw[mh] at h;simp at h;omega
         |false=>rw[mh] at h;have:=bq (m+1) q (by simpa using h);omega
       have:=this es (n+1) _ h;omega
      |succ eI=>exact⟨eI,rfl⟩
     obtain⟨eI,rfl⟩:=hi;obtain⟨dj,g8,dw,dn,i3,sI⟩:=aHy eI (by rw[h];congr 1;omega);exact⟨dj,g8,by simpa using dw,by simp[rr,aj,dn],i3,fun x=>by simp[oi,aj,sI]⟩
theorem aHU{kt:TypeId}{k:fx}(h:l4 P kt=some k){c:fl}(ar:nC P kt=some c):∃d,P.underlying kt=some d/\vM d=some k/\∀x y,hV c x y=hA k x y:=by
 obtain⟨d,aw,ao⟩:=Us h;refine⟨d,aw,ao,?_⟩;unfold nC at ar;rw[h] at ar;cases k<;>simp only[aV] at ar<;>subst ar<;>intro x y<;>rfl
theorem Ft{kt:TypeId}{c:fl}(ar:nC P kt=some c){key:V}{fB:Value}(ao:bp w Γ key fB)(l:List MapEntry)(es:List (V×V))(h:sZ w Γ l es)(bR:nD c key es=true):
 (hH c key es 0=none/\∀w',(Instr.findKey kt fB l).run P w'=.ok none w')∨
 ∃j e,hH c key es 0=some j/\l[j]? =some e/\e.key=fB/\∀w',(Instr.findKey kt fB l).run P w'=.ok (some (j,e.val)) w':=by
 have same:∀(j:Nat)(e:MapEntry),hH c key es 0=some j->l[j]? =some e->e.key=fB:=fun j e U af=>by
  obtain⟨k,y,dw,_,i3,_⟩:=(x3 (c:=c) (key:=key) es 0).2 j (by simpa using U);obtain⟨b,aj⟩:∃b,hV c key k=some b:=by
   cases aG:hV c key k with
   |none=>rw[aG] at i3;simp at i3
   |some b=>exact⟨b,rfl⟩
  rw[aj] at i3;simp only[Option.getD_some] at i3;exact(aHT ar ao (h.2 j e (k,y) af dw).1 aj i3).symm
 cases zz:l4 P kt with
 |some k=>
  obtain⟨d,aw,fw,heq⟩:=aHU zz ar;rcases Rn (d:=d) (c:=c) (fun ab aD h=>(JC fw ab aD (by rw[<-heq];exact h)).1) ao l es 0 h bR with⟨aW,a9⟩|⟨j,e,aW,a9,bN⟩
  . exact .inl ⟨aW,fun w'=>Go.MapKept.run_findKey aw a9⟩
  . rw[ev] at aW bN
    exact .inr ⟨j,e,aW,a9,same j e aW a9,fun w'=>Go.MapKept.run_findKey aw bN⟩
 |none=>
  have xe:∃cu d,c=.cells cu/\P.underlying kt=some d/\(∀x y,Instr.sameNow d x y=none):=by
   unfold nC at ar;rw[zz] at ar;simp only at ar;split at ar
   . rename_i bO hu
     split at ar
     . split at ar<;>simp only[aV,reduceCtorEq] at ar
       exact⟨_,_,ar.symm,hu,fun x y=>rfl⟩
     . cases ar
   . rename_i n e hu
     split at ar
     . split at ar<;>simp only[aV,reduceCtorEq] at ar
       exact⟨_,_,ar.symm,hu,fun x y=>rfl⟩
     . cases ar
   . cases ar
  obtain⟨cu,d,rfl,hu,p4⟩:=xe;have ak:∀{x y:V}{bg dd:Value}{b:Bool},bp w Γ x bg->bp w Γ y dd->hV (.cells cu) x y=some b->∀w',(Op.equal kt bg dd).run P w'=.ok b w':=by
   intro x y bg dd b ab aD ka w';cases x<;>cases y<;>simp only[hV,reduceCtorEq] at ka;obtain⟨_,ka⟩:=qW ka;cases ab with
   |agg _ bg tL pj=>
    cases aD with
    |agg _ dd xn p6=>exact aHS ar ⟨tL,pj⟩ ⟨xn,p6⟩ ka w'
  have run:∀w',(Instr.findKey kt fB l).run P w'=(match l with|[]=>.ok none w'|_=>(Instr.findAsking kt fB l 0).run P w'):=fun w'=>by
   unfold Instr.findKey;simp only[Sem.run_bind,ej hu,Result.andThen_ok];cases l with
   |nil=>simp[Instr.findNow]
   |cons e l=>simp[Instr.findNow,p4]
  have aL:=fun w'=>Rl (P:=P) (kt:=kt) (c:=.cells cu) ak ao w' l es 0 h bR;have V6:∀w',(Instr.findKey kt fB l).run P w'=(Instr.findAsking kt fB l 0).run P w':=fun w'=>by
   rw[run w'];cases l with
   |nil=>simp[Instr.findAsking]
   |cons e l=>rfl
  cases hi:hH (.cells cu) key es 0 with
  |none=>
   refine .inl ⟨rfl,fun w'=>?_⟩;rcases aL w' with⟨_,a9⟩|⟨j,e,aW,_,_⟩
   . rw[V6,a9]
   . rw[hi] at aW;cases aW
  |some j=>
   have d9:∀w',∃e,l[j]? =some e/\(Instr.findKey kt fB l).run P w'=.ok (some (j,e.val)) w':=fun w'=>by
    rcases aL w' with⟨aW,_⟩|⟨j',e,aW,a9,bN⟩
    . rw[hi] at aW;cases aW
    . rw[hi,ev] at aW
      simp only[aV] at aW;subst aW;exact⟨e,a9,by rw[V6,bN,ev]⟩
   obtain⟨e,he,_⟩:=d9 w;refine .inr ⟨j,e,rfl,he,same j e hi he,fun w'=>?_⟩;obtain⟨fm,tz,al⟩:=d9 w';rw[he] at tz;simp only[aV] at tz;subst tz;exact al
theorem Xw{t:TypeId}{z:V}(h:kJ P t=some [z])(ag:z9 P t=true):∃dR:Value,(∀w',(zeroValue t).run P w'=.ok dR w')/\∀(w:World)(Γ:Env),bp w Γ z dR:=by
 obtain⟨dR,U,af⟩:=yD h;refine⟨dR,U,fun w Γ=>?_⟩;obtain⟨ay,_⟩:=af w Γ;have a7:=U w;have ar:dR.cells=#[dR]:=by
  unfold z9 at ag;split at ag
  . rename_i i hi
    have e:i.zero=some dR:=by
     simp[zeroValue,typeInfo,hi] at a7;split at a7<;>simp_all
    rw[e] at ag;cases dR<;>simp at ag<;>rfl
  . cases ag
 rw[ar] at ay;have:=ay.2 0 z rfl;simpa using this
theorem Jc(aB:Good w Γ M){id:Nat}{es:List (V×V)}(bb:M[id]? =some (.map es)){bl:Value}(al:bp w Γ (.map id) bl):
 ∃l c8,Γ.cW[id]? =some l/\l.live=true/\(∀o,¬Γ.S l.b o)/\l.box=true/\bl=.map (some l.b)/\w.heap[l.b]? =some (.map c8 es.length)/\sZ w Γ c8.toList es/\
  (∀(i:Nat)(cx:V×V),es[i]? =some cx->cx.1.qc=true/\cx.2.iA=true)/\(∀(i:Nat)(e:MapEntry),c8[i]? =some e->e.born=i):=by
 cases al with
 |map _ l ag aj aq=>
  obtain⟨U,af,ay,c8,clock,be,bv,b7,dQ⟩:=aB.eG id l _ ag bb;subst dQ;have Jp:∀(i:Nat)(cx:V×V),es[i]? =some cx->∃e,c8[i]? =some e:=fun i cx hi=>by
   have:i<c8.size:=by rw[bv];exact(bn.1 hi).1
   exact⟨c8[i],by simp[this]⟩
  refine⟨l,c8,ag,af,ay,U,rfl,be,⟨by simpa using bv,fun i e cx he ao=>?_⟩,fun i cx ao=>?_,fun i e he=>?_⟩
  . have:=b7 i e cx (by simpa using he) ao
    exact⟨this.2.2.1,this.2.2.2.1⟩
  . obtain⟨e,he⟩:=Jp i cx ao
    have:=b7 i e cx he ao;exact⟨this.1,this.2.1⟩
  . have hi:i<es.length:=by rw[<-bv];exact(la.1 he).1
    exact(b7 i e es[i] he (gd hi)).2.2.2.2
theorem aIH(aB:Good w Γ M)(ak:eh w Γ s a.tmps){t kt e:TypeId}{m k:Operand}{e5 dj:aU}{ok:Bool}{c:fl}{z:V}(az:o.op=.lookup t m k ok)(hu:P.underlying t=some (.map kt e))(hm:b2 m=some e5)(ao:b2 k=some dj)
 (ar:nC P kt=some c)(a7:kJ P e=some [z])(ag:z9 P e=true)(h:oh c [z] false ok (aN s e5) (aN s dj) M=some v):hv P w Γ a o v:=by
 have ov:=d4 ak hm;have ir:=d4 ak ao;obtain⟨dR,vw,tQ⟩:=Xw a7 ag;simp only[oh,Fc] at h;have jh:kw c (aN s dj)=true:=by
  cases aj:kw c (aN s dj) with
  |true=>rfl
  |false=>simp[m2,aj] at h
 have fin:∀(es:Array MapEntry)(r:Option V),m2 c M (aN s e5) (aN s dj)=some r->
  (a.eval m=.map none/\es=#[]∨∃b clock,a.eval m=.map (some b)/\∀w',Below w.heap.size w w'->w'.heap[b]? =some (.map es clock))->
  (r=none/\(∀w',(Instr.findKey kt (a.eval k) es.toList).run P w'=.ok none w')∨∃y j aN,r=some y/\(∀w',(Instr.findKey kt (a.eval k) es.toList).run P w'=.ok (some (j,aN)) w')/\bp w Γ y aN)->hv P w Γ a o v:=by
  intro es r al sn aC;rw[al] at h;have run:∀q w',(Instr.findKey kt (a.eval k) es.toList).run P w'=.ok q w'->Below w.heap.size w w'->(Instr.lookup t (a.eval m) (a.eval k) ok).run P w'=
   .ok (match q with|some (_,v)=>(if ok then .tuple #[v,.bool true] else v)|none=>(if ok then .tuple #[dR,.bool false] else dR)) w':=by
   intro q w' aG aj;unfold Instr.lookup;rcases sn with⟨lx,rfl⟩|⟨b,clock,lx,ce⟩
   . have rh:(Instr.findKey kt (a.eval k) []).run P w'=.ok q w':=aG
     cases q with
     |none=>simp[ej hu,Result.andThen,lx,uO ar _ jh ir,rh,vw]
     |some q=>simp[ej hu,Result.andThen,lx,uO ar _ jh ir,rh]
   . cases q with
     |none=>simp[ej hu,Result.andThen,lx,Go.MapKept.run_getObj_map (ce w' aj),uO ar _ jh ir,aG,vw]
     |some q=>simp[ej hu,Result.andThen,lx,Go.MapKept.run_getObj_map (ce w' aj),uO ar _ jh ir,aG]
  rcases aC with⟨rfl,aC⟩|⟨y,j,Eu,rfl,aC,hN⟩
  . simp only[aV] at h
    subst h;refine⟨if ok then .tuple #[dR,.bool false] else dR,?_,fun w' aj=>by simp[execOp,az,run _ _ (aC w') aj]⟩;cases ok with
    |false=>exact tQ w Γ
    |true=>
     refine .tuple _ _ rfl fun j x ab=>?_;match j with
     |0=>simp at ab;subst ab;exact tQ w Γ
     |1=>simp at ab;subst ab;exact .bool _
     |j+2=>simp at ab
  . simp only[aV] at h
    subst h;refine⟨if ok then .tuple #[Eu,.bool true] else Eu,?_,fun w' aj=>by simp[execOp,az,run _ _ (aC w') aj]⟩;cases ok with
    |false=>exact hN
    |true=>
     refine .tuple _ _ rfl fun j x ab=>?_;match j with
     |0=>simp at ab;subst ab;exact hN
     |1=>simp at ab;subst ab;exact .bool _
     |j+2=>simp at ab
 cases aC:m2 c M (aN s e5) (aN s dj) with
 |none=>rw[aC] at h;simp at h
 |some r=>
  have CO:=aC;unfold m2 at aC;obtain⟨_,aC⟩:=qW aC;split at aC
  . rename_i aK
    rw[aK] at ov;simp only[aV] at aC;subst aC;have:a.eval m=.map none:=by generalize a.eval m=q at ov;cases ov;rfl
    refine fin #[] none CO (.inl ⟨this,rfl⟩) (.inl ⟨rfl,fun w'=>?_⟩);rcases Ft ar ir [] [] ⟨rfl,fun i e cx U=>by simp at U⟩ rfl with⟨_,g⟩|⟨j,e,g,_⟩
    . exact g w'
    . simp[hH] at g
  . rename_i id aK
    rw[aK] at ov;split at aC
    . rename_i es bb
      obtain⟨CS,rfl⟩:=fe aC;obtain⟨l,c8,ag,aq,di,aj,q9,ce,kr,ax,_⟩:=Jc aB bb ov;have bw:=aB.m0 ag aq;refine fin c8 _ CO (.inr ⟨l.b,es.length,q9,fun w' mh=>by rw[mh.block _ bw];exact ce⟩) ?_;rcases Ft ar ir c8.toList es kr CS with⟨aW,a9⟩|⟨j,e,aW,a9,bN,c5⟩
      . exact .inl ⟨((x3 es 0).1 aW).1,a9⟩
      . obtain⟨qd,y,dw,dn,_,_⟩:=(x3 (c:=c) (key:=aN s dj) es 0).2 j (by simpa using aW)
        exact .inr ⟨y,j,e.val,dn,c5,(kr.2 j e (qd,y) a9 dw).2⟩
    . cases aC
  . cases aC
theorem DV(aB:Good w Γ M){id:Nat}{es sa:List (V×V)}{l:Loc}{c8 wP:Array MapEntry}(ag:Γ.cW[id]? =some l)(aq:l.live=true)(aj:l.box=true)(di:∀o,¬Γ.S l.b o)(ce:w.heap[l.b]? =some (.map c8 es.length))
 (fP:wP.size=sa.length)(d9:∀(i:Nat)(e:MapEntry)(cx:V×V),wP[i]? =some e->sa[i]? =some cx->cx.1.qc=true/\cx.2.iA=true/\bp w Γ cx.1 e.key/\bp w Γ cx.2 e.val/\e.born=i):
 Good {w with heap:=w.heap.setIfInBounds l.b (.map wP sa.length)} Γ (M.set id (.map sa))/\Ext w Γ {w with heap:=w.heap.setIfInBounds l.b (.map wP sa.length)} Γ:=by
 have eV:=Go.MapKept.heap_set (o':=Obj.map wP sa.length) ce;have he:Ext w Γ {w with heap:=w.heap.setIfInBounds l.b (.map wP sa.length)} Γ:=Ext.write aB ag eV.2 (by simp) rfl rfl rfl (fun o' ee=>absurd ee (di o'));exact⟨aB.write ag aq he eV.2 ⟨aj,aq,di,wP,sa.length,eV.1,fP,fun i e cx U af=>by
  obtain⟨dw,dn,i3,sI,Jx⟩:=d9 i e cx U af;exact⟨dw,dn,i3.ext he,sI.ext he,Jx⟩,rfl⟩,he⟩
theorem Q0{c8:Array MapEntry}{es:List (V×V)}(kr:sZ w Γ c8.toList es)(ax:∀(i:Nat)(cx:V×V),es[i]? =some cx->cx.1.qc=true/\cx.2.iA=true)(n5:∀(i:Nat)(e:MapEntry),c8[i]? =some e->e.born=i)
 {key x:V}{fB bg:Value}(lU:key.qc=true)(zL:x.iA=true)(ir:bp w Γ key fB)(rx:bp w Γ x bg):
 (c8.push {key:=fB,val:=bg,born:=es.length}).size=(es++[(key,x)]).length/\∀(i:Nat)(e:MapEntry)(cx:V×V),(c8.push {key:=fB,val:=bg,born:=es.length})[i]? =some e->(es++[(key,x)])[i]? =some cx->
   cx.1.qc=true/\cx.2.iA=true/\bp w Γ cx.1 e.key/\bp w Γ cx.2 e.val/\e.born=i:=by
 have va:c8.size=es.length:=by simpa using kr.1
 refine⟨by simp[va],fun i fm cx U af=>?_⟩;rw[Array.getElem?_push] at U;split at U
 . rename_i hi
   simp only[aV] at U;subst U;rw[hi,va,List.getElem?_concat_length] at af;simp only[aV] at af;subst af;exact⟨lU,zL,ir,rx,by rw[hi,va]⟩
 . have hi:i<c8.size:=(la.1 U).1
   rw[gh (by omega)] at af;obtain⟨iD,f3⟩:=ax i cx af;obtain⟨dw,dn⟩:=kr.2 i fm cx (by simpa using U) af;exact⟨iD,f3,dw,dn,n5 i fm U⟩
theorem K3{c8:Array MapEntry}{es:List (V×V)}(kr:sZ w Γ c8.toList es)(ax:∀(i:Nat)(cx:V×V),es[i]? =some cx->cx.1.qc=true/\cx.2.iA=true)(n5:∀(i:Nat)(e:MapEntry),c8[i]? =some e->e.born=i)
 {j:Nat}{e:MapEntry}(ap:c8[j]? =some e)(f:MapEntry->MapEntry)(aC:(f e).born=e.born){key x:V}(lU:key.qc=true)(zL:x.iA=true)(ir:bp w Γ key (f e).key)(rx:bp w Γ x (f e).val):
 (c8.modify j f).size=(es.set j (key,x)).length/\∀(i:Nat)(e:MapEntry)(cx:V×V),(c8.modify j f)[i]? =some e->(es.set j (key,x))[i]? =some cx->
   cx.1.qc=true/\cx.2.iA=true/\bp w Γ cx.1 e.key/\bp w Γ cx.2 e.val/\e.born=i:=by
 have va:c8.size=es.length:=by simpa using kr.1
 refine⟨by simp[va],fun i fm cx U af=>?_⟩;have eo:j<es.length:=by rw[<-va];exact(la.1 ap).1
 rw[Array.getElem?_modify] at U;split at U
 . rename_i mT
   subst mT;rw[ap] at U;simp only[mI,aV] at U;subst U;rw[eC eo] at af;simp only[aV] at af;subst af;exact⟨lU,zL,ir,rx,by rw[aC];exact n5 j e ap⟩
 . rename_i mT
   rw[dx mT] at af;obtain⟨iD,f3⟩:=ax i cx af;obtain⟨dw,dn⟩:=kr.2 i fm cx (by simpa using U) af;exact⟨iD,f3,dw,dn,n5 i fm U⟩
theorem Wr{c:fl}{key:V}(jh:kw c key=true){fB:Value}(ir:bp w Γ key fB)(w':World):(Instr.keyThatStays fB fB).run P w'=.ok fB w':=by
 simp[Instr.keyThatStays,aLs jh ir]
theorem aI7(aB:Good w Γ M)(ak:eh w Γ s a.tmps){t kt e:TypeId}{m k x:Operand}{e5 dj df:aU}{c:fl}{ah:Mem}(az:o.op=.mapUpdate t m k x)(hu:P.underlying t=some (.map kt e))(hm:b2 m=some e5)(ao:b2 k=some dj)(ab:b2 x=some df)
 (ar:nC P kt=some c)(h:Ab c (aN s e5) (aN s dj) (aN s df) M=some (v,ah)):h3 P w Γ a o v ah:=by
 have ov:=d4 ak hm;have ir:=d4 ak ao;have rx:=d4 ak ab;unfold Ab at h;split at h
 . rename_i cz U
   simp only[aV,dX] at h;obtain⟨rfl,rfl⟩:=h;unfold Nf at U;split at U
   . rename_i id bf
     rw[bf] at ov;split at U
     . rename_i es bb
       obtain⟨aj,rfl⟩:=fe U;simp only[b_] at aj;obtain⟨⟨jh,CS⟩,zL⟩:=aj;obtain⟨l,c8,ag,aq,di,pV,q9,ce,kr,ax,n5⟩:=Jc aB bb ov;have lU:=Uo jh;rcases Ft ar ir c8.toList es kr CS with⟨aW,a9⟩|⟨j,e,aW,a9,er,c5⟩
       . have bN:=((x3 es 0).1 aW).2
         obtain⟨dw,dn⟩:=Q0 kr ax n5 lU zL ir rx;rw[bN];obtain⟨f1,f2⟩:=DV aB ag aq pV di ce dw dn;refine⟨.skip,_,Γ,?_,.inr ⟨rfl,rfl⟩,f1,f2⟩;have:(es++[(aN s dj,aN s df)]).length=es.length+1:=by simp
         rw[this];have run:(Instr.mapUpdate t (a.eval m) (a.eval k) (a.eval x)).run P w=.ok () {w with heap:=w.heap.setIfInBounds l.b (.map (c8.push {key:=a.eval k,val:=a.eval x,born:=es.length}) (es.length+1))}:=by
          unfold Instr.mapUpdate;simp[ej hu,Result.andThen,q9,Go.MapKept.run_getObj_map ce,uO ar _ jh ir,a9 w,Go.MapKept.run_setObj_map _ ce]
         simp[execOp,az,run]
       . obtain⟨qd,y,eT,_,_,bN⟩:=(x3 (c:=c) (key:=aN s dj) es 0).2 j (by simpa using aW)
         have sf:c8[j]? =some e:=by simpa using a9
         obtain⟨dw,dn⟩:=K3 (x:=aN s df) (key:=aN s dj) kr ax n5 sf (fun e=>{e with key:=a.eval k,val:=a.eval x}) rfl lU zL ir rx;rw[bN];obtain⟨f1,f2⟩:=DV aB ag aq pV di ce dw dn;refine⟨.skip,_,Γ,?_,.inr ⟨rfl,rfl⟩,f1,f2⟩;have:(es.set j (aN s dj,aN s df)).length=es.length:=by simp
         rw[this];have run:(Instr.mapUpdate t (a.eval m) (a.eval k) (a.eval x)).run P w=.ok () {w with heap:=w.heap.setIfInBounds l.b (.map (c8.modify j fun e=>{e with key:=a.eval k,val:=a.eval x}) es.length)}:=by
          unfold Instr.mapUpdate;simp[ej hu,Result.andThen,q9,Go.MapKept.run_getObj_map ce,uO ar _ jh ir,c5 w,sf,er,Wr jh ir,Go.MapKept.run_setObj_map _ ce]
         simp[execOp,az,run]
     . cases U
   . cases U
 . cases h
theorem aI2(aB:Good w Γ M)(ak:eh w Γ s a.tmps){t kt e:TypeId}{m k:Operand}{e5 dj:aU}{c:fl}{z:V}{ah:Mem}(az:o.op=.mapEntry t m k)(hu:P.underlying t=some (.map kt e))(hm:b2 m=some e5)(ao:b2 k=some dj)
 (ar:nC P kt=some c)(a7:kJ P e=some [z])(aGa:z9 P e=true)(aHn:z.iA=true)(h:t6 c z (aN s e5) (aN s dj) M=some (v,ah)):h3 P w Γ a o v ah:=by
 have ov:=d4 ak hm;have ir:=d4 ak ao;obtain⟨dR,vw,tQ⟩:=Xw a7 aGa;unfold t6 at h;split at h
 . rename_i id bf
   rw[bf] at ov;split at h
   . rename_i es bb
     obtain⟨aj,h⟩:=qW h;simp only[b_] at aj;obtain⟨jh,CS⟩:=aj;obtain⟨l,c8,ag,aq,di,pV,q9,ce,kr,ax,n5⟩:=Jc aB bb ov;have lU:=Uo jh;have Jp:∀{lF:World}{Ew:Env}{y:V}{Eu:Value}(n:Nat),bp lF Ew y Eu->bp lF Ew (.tuple [y,.int .i64 n]) (.tuple #[Eu,.int .i64 n]):=fun n aD=>by
      refine .tuple _ _ rfl fun j x ab=>?_;match j with
      |0=>simp at ab;subst ab;exact aD
      |1=>simp at ab;subst ab;exact .int _ _
      |j+2=>simp at ab
     rcases Ft ar ir c8.toList es kr CS with⟨aW,a9⟩|⟨j,e,aW,a9,er,c5⟩
     . rw[aW] at h
       simp only[aV,dX] at h;obtain⟨rfl,rfl⟩:=h;obtain⟨dw,dn⟩:=Q0 kr ax n5 lU aHn ir (tQ w Γ);obtain⟨f1,f2⟩:=DV aB ag aq pV di ce dw dn;refine⟨.value (.tuple #[dR,.int .i64 es.length]),_,Γ,?_,.inl ⟨_,rfl,Jp _ (tQ _ _)⟩,f1,f2⟩;have:(es++[(aN s dj,z)]).length=es.length+1:=by simp
       rw[this];have run:(Instr.mapEntry t (a.eval m) (a.eval k)).run P w=.ok (.tuple #[dR,.int .i64 es.length]) {w with heap:=w.heap.setIfInBounds l.b (.map (c8.push {key:=a.eval k,val:=dR,born:=es.length}) (es.length+1))}:=by
        unfold Instr.mapEntry;simp[ej hu,Result.andThen,q9,Go.MapKept.run_getObj_map ce,uO ar _ jh ir,a9 w,vw,Go.MapKept.run_setObj_map _ ce,goInt]
       simp[execOp,az,run]
     . rw[aW] at h
       obtain⟨qd,y,eT,_,_,_⟩:=(x3 (c:=c) (key:=aN s dj) es 0).2 j (by simpa using aW);simp only[eT,mI,aV,dX] at h;obtain⟨rfl,rfl⟩:=h;have sf:c8[j]? =some e:=by simpa using a9
       have hN:=(kr.2 j e (qd,y) a9 eT).2;have oc:=(ax j (qd,y) eT).2;obtain⟨dw,dn⟩:=K3 (x:=y) (key:=aN s dj) kr ax n5 sf (fun e=>{e with key:=a.eval k}) rfl lU oc ir hN;obtain⟨f1,f2⟩:=DV aB ag aq pV di ce dw dn;refine⟨.value (.tuple #[e.val,.int .i64 j]),_,Γ,?_,.inl ⟨_,rfl,Jp _ (hN.ext f2)⟩,f1,f2⟩;have:(es.set j (aN s dj,y)).length=es.length:=by simp
       rw[this];have run:(Instr.mapEntry t (a.eval m) (a.eval k)).run P w=.ok (.tuple #[e.val,.int .i64 j]) {w with heap:=w.heap.setIfInBounds l.b (.map (c8.modify j fun e=>{e with key:=a.eval k}) es.length)}:=by
        unfold Instr.mapEntry;simp[ej hu,Result.andThen,q9,Go.MapKept.run_getObj_map ce,uO ar _ jh ir,c5 w,sf,er,Wr jh ir,Go.MapKept.run_setObj_map _ ce,goInt,n5 j e sf]
       simp[execOp,az,run]
   . cases h
 . cases h
theorem Rm:∀(l:List MapEntry)(n i:Nat),(∀(j:Nat)(e:MapEntry),l[j]? =some e->e.born=n+j)->i<l.length->l.findIdx? (fun e=>(e.born:Int)==((n+i:Nat):Int))=some i
 |[],n,i,_,h=>by simp at h
 |e::l,n,i,aj,h=>by
  have a4:=aj 0 e rfl;rw[List.findIdx?_cons];cases i with
  |zero=>simp[a4]
  |succ i=>
   have bq:=Rm l (n+1) i (fun j e ap=>by have:=aj (j+1) e (by simpa using ap);omega) (by simpa using h);have cr:((e.born:Int)==((n+(i+1):Nat):Int))=false:=by simp[a4];omega
   rw[cr];have a6:((n+(i+1):Nat):Int)=((n+1+i:Nat):Int):=by omega
   rw[a6,bq];rfl
theorem aA_(aB:Good w Γ M)(ak:eh w Γ s a.tmps){t:TypeId}{m st x:Operand}{e5 N8 df:aU}{ah:Mem}(az:o.op=.entryStore t m st x)(hm:b2 m=some e5)(bh:b2 st=some N8)(ab:b2 x=some df)
 (h:wO (aN s e5) (aN s N8) (aN s df) M=some (v,ah)):h3 P w Γ a o v ah:=by
 have ov:=d4 ak hm;have rs:=d4 ak bh;have rx:=d4 ak ab;unfold wO at h;split at h
 . rename_i id aHP i bf hi
   rw[bf] at ov;rw[hi] at rs;split at h
   . rename_i es bb
     obtain⟨aj,h⟩:=qW h;simp only[b_,decide_eq_true_eq] at aj;obtain⟨l,c8,ag,aq,di,pV,q9,ce,kr,ax,n5⟩:=Jc aB bb ov;simp only[dJ,dX] at h;obtain⟨⟨qd,y⟩,eT,rfl,rfl⟩:=h;have va:c8.size=es.length:=by simpa using kr.1
     have bw:i.toNat<c8.size:=by rw[va];exact(bn.1 eT).1
     have sf:c8[i.toNat]? =some c8[i.toNat]:=by simp[bw]
     have ir:=(kr.2 i.toNat c8[i.toNat] (qd,y) (by rw[<-Array.getElem?_toList] at sf;exact sf) eT).1;obtain⟨dw,dn⟩:=K3 (x:=aN s df) (key:=qd) kr ax n5 sf (fun e=>{e with val:=a.eval x}) rfl (ax i.toNat (qd,y) eT).1 aj.2 ir rx;obtain⟨f1,f2⟩:=DV aB ag aq pV di ce dw dn;refine⟨.skip,_,Γ,?_,.inr ⟨rfl,rfl⟩,f1,f2⟩;have:(es.set i.toNat (qd,aN s df)).length=es.length:=by simp
     rw[this];have cm:a.eval st=.int aHP i:=kf rs;have aC:c8.findIdx? (fun e=>(e.born:Int)==i)=some i.toNat:=by
      have:=Rm c8.toList 0 i.toNat (fun j e ap=>by rw[n5 j e (by simpa using ap)];omega) (by simpa using bw);rw[ev,Int.toNat_of_nonneg aj.1] at this;have gm:c8=c8.toList.toArray:=by simp
      rw[gm,List.findIdx?_toArray];exact this
     have run:(Instr.entryStore t (a.eval m) (a.eval st) (a.eval x)).run P w=.ok () {w with heap:=w.heap.setIfInBounds l.b (.map (c8.modify i.toNat fun e=>{e with val:=a.eval x}) es.length)}:=by
      unfold Instr.entryStore;simp[Result.andThen,q9,Go.MapKept.run_getObj_map ce,cm,asInt,asIntOf,aC,Go.MapKept.run_setObj_map _ ce]
     simp[execOp,az,run]
   . cases h
 . cases h
end
end Go.aQ
