/- A part of the proof of TopBoard: the abstract machine, the code that the statement reaches, the contracts of its functions. Part 0. The text is made short by a program. -/
import Derived.Calls
import Derived.Below
import Derived.Laws.Sem
import Derived.Laws.World
import Derived.Laws.Cells
import Derived.Deep.Quiet
import Derived.Deep.LoopGhost
import Derived.Scope
import Derived.ScopeJumps
import Derived.Laws.Strings
import Derived.Laws.StructEq
import Derived.Maps.RangeRun
import Derived.Laws.BytesString
import Derived.MapKept
import Derived.LaidEql
import Derived.Orders
import Derived.ChangeShapes
import Derived.ChangeSame
import Derived.ChangeArms
import Derived.ChangeOld
import Derived.Carry
import Derived.RowKit
import Derived.Handed
import Derived.Stop.Joined
import Derived.LaidLaws
import Derived.Attr
import Derived.Test.YtbndjigedmpplaaGreatProg
import Derived.KernelRfl
set_option linter.unusedSimpArgs false
set_option linter.unusedVariables false
set_option linter.unusedSectionVars false
set_option maxHeartbeats 1000000
set_option maxRecDepth 10000
open Array renaming getD_eq_getD_getElem?->iq,getElem?_eq_some_iff->lp
open BitVec renaming ofInt->iD
open Bool renaming and_eq_true->cc,false_and->oS,false_eq_true->jh,not_eq_true'->lV
open ByteArray renaming mk->sh
open List renaming append_nil->fA,ext_getElem?->oT,getD->kV,getElem?_append_left->gp,getElem?_append_right->j_,getElem?_cons_zero->ji,getElem?_drop->kW,getElem?_eq_getElem->gg,getElem?_eq_none->lX,getElem?_eq_some_iff->bo,getElem?_map->gX,getElem?_of_mem->ir,getElem?_set_ne->dv,getElem?_set_self->eB,getElem?_take_of_lt->hA,length_append->dz,length_cons->dC,length_map->eu,length_nil->gY,length_set->eR,length_take->iS,map_cons->hY,map_nil->lq,mem_singleton->gZ,range->c5,replicate->f_
open Nat renaming add_assoc->kX,add_mul->iv,add_zero->iT,beq->ey,blt->iw,eq_of_beq_eq_true->oV,le_refl->cH,le_trans->kb,mul_le_mul_right->jv,mul_one->kY,sub_self->mS,zero_add->ee,zero_le->fR
open Ne renaming symm->gq
open Option renaming map_eq_some_iff->dK,map_some->lY
open Option.some renaming injEq->aW
open Prod.mk renaming injEq->d_
namespace Go.aL
open Go.RowKit (Below)
inductive c4 where
 |nil|full|any|cx
 deriving DecidableEq
inductive V where
 |undef
 |bool (b:Bool)
 |int (k:IntKind) (n:Int)
 |str (s:List UInt8)
 |dE
 |gz
 |jJ
 |slice (rows:List (List V)) (c:c4)
 |gA (cells:List V)
 |c7 (cells:List V)
 |dF (f:Nat) (c3:List V)
 |ptr (id off:Nat)
 |fq (id ver row off:Nat)
 |aZ (id ver start len:Nat)
 |map (id:Nat)
 |fn (f:Nat) (c3:List V)
 |agg (cells:List V)
 |tuple (vs:List V)
 deriving Inhabited
def V.ku:V->Bool
 |.bool _|.int _ _|.str _|.dE|.gz|.jJ|.slice _ _|.gA _|.c7 _|.dF _ _=>true
 |_=>false
def V.iK:V->Bool
 |.undef|.agg _|.tuple _=>false
 |_=>true
def V.vY:V->Bool
 |.bool _|.int _ _|.str _=>true
 |_=>false
def V.qy:V->Bool
 |.agg cells=>cells.all V.vY
 |v=>v.vY
inductive a1 where
 |box (cells:List V)
 |arr (sz:Nat) (rows:List (List V)) (ver fz:Nat)
 |map (es:List (V×V))
 |vec (cells:List V) (ver:Nat)
 |iter (mid n:Nat) (seen:List Nat)
 |dead
 deriving Inhabited
abbrev Mem:=List a1
structure Loc where
 b:Nat
 box:Bool
 live:Bool
 sz:Nat
 cap:Nat
 ver:Nat
def Loc.aO7(l:Loc)(start len:Nat)(v:Value):Prop:=
 (l.live=false/\len=0/\v=.slice none 0 0)∨(l.live=true/\start+len<=l.cap/\∃o cap,v=.slice (some ⟨l.b,o,none⟩) len cap/\start+cap<=l.cap/\len<=cap/\(0<cap->o=start*l.sz))
structure Env where
 h8:Nat
 c0:List Loc
 S:Nat->Nat->Prop
def lh(w:World)(b o:Nat):Option Value×Option (Nat×Nat):=
 (w.cell? ⟨b,o,none⟩,match w.heap[b]? with|some (.cells _ _ f)=>some f|_=>none)
inductive bq(w:World)(Γ:Env):V->Value->Prop
 |undef (v:Value):bq w Γ .undef v
 |bool (b:Bool):bq w Γ (.bool b) (.bool b)
 |int (k:IntKind) (n:Int):bq w Γ (.int k n) (.int k n)
 |str (s:List UInt8):bq w Γ (.str s) (.string ⟨s.toArray⟩)
 |dE:bq w Γ .dE (.pointer none)
 |gz:bq w Γ .gz .nilFunc
 |jJ:bq w Γ .jJ (.map none)
 |iO (c:c4) (ar:c=.nil∨c=.cx):bq w Γ (.slice [] c) (.slice none 0 0)
 |lR (c:c4) (ar:c≠.nil) (p:Addr):bq w Γ (.slice [] c) (.slice (some p) 0 0)
 |slice (rows:List (List V)) (c:c4) (b o sz cap:Nat) (bn:Nat->Nat->Value) (ar:c≠.nil) (aD:c=.full->cap=rows.length) (f7:rows.length<=cap)
   (fT:∀(i:Nat)(r:List V),rows[i]? =some r->r.length=sz)
   (ak:∀i j,i<rows.length->j<sz->Γ.S b (o+(i*sz+j)))
   (dO:∀i j,i<rows.length->j<sz->w.cell? ⟨b,o+(i*sz+j),none⟩=some (bn i j))
   (ay:∀(i:Nat)(r:List V)(j:Nat)(x:V),rows[i]? =some r->r[j]? =some x->x.ku=true)
   (an:∀(i:Nat)(r:List V)(j:Nat)(x:V),rows[i]? =some r->r[j]? =some x->bq w Γ x (bn i j)):
   bq w Γ (.slice rows c) (.slice (some ⟨b,o,none⟩) rows.length cap)
 |gA (cells:List V) (b o:Nat) (bn:Nat->Value)
   (ak:∀j,j<cells.length->Γ.S b (o+j))
   (dO:∀j,j<cells.length->w.cell? ⟨b,o+j,none⟩=some (bn j))
   (ay:∀(j:Nat)(x:V),cells[j]? =some x->x.ku=true)
   (an:∀(j:Nat)(x:V),cells[j]? =some x->bq w Γ x (bn j)):
   bq w Γ (.gA cells) (.pointer (some ⟨b,o,none⟩))
 |c7 (cells:List V) (b o:Nat) (bn:Nat->Value) (aK:0<cells.length)
   (ak:∀j,j<cells.length->Γ.S b (o+j))
   (dO:∀j,j<cells.length->lh w b (o+j)=(some (bn j),some (0,0)))
   (ay:∀(j:Nat)(x:V),cells[j]? =some x->x.ku=true)
   (an:∀(j:Nat)(x:V),cells[j]? =some x->bq w Γ x (bn j)):
   bq w Γ (.c7 cells) (.pointer (some ⟨b,o,none⟩))
 |dF (f:Nat) (c3:List V) (bn:Array Value) (ag:bn.size=c3.length)
   (ay:∀(j:Nat)(x:V),c3[j]? =some x->x.ku=true)
   (an:∀(j:Nat)(x:V),c3[j]? =some x->bq w Γ x (bn.getD j Go.undef)):bq w Γ (.dF f c3) (.func (.func f) #[] bn)
 |ptr (id off:Nat) (l:Loc) (ag:Γ.c0[id]? =some l) (aj:l.box=true) (aq:l.live=true):bq w Γ (.ptr id off) (.pointer (some ⟨l.b,off,none⟩))
 |fq (id ver row off:Nat) (l:Loc) (ag:Γ.c0[id]? =some l) (aq:ver<=l.ver) (p:Addr)
   (h:l.ver=ver->p=⟨l.b,row*l.sz+off,none⟩):bq w Γ (.fq id ver row off) (.pointer (some p))
 |aZ (id ver start len:Nat) (l:Loc) (ag:Γ.c0[id]? =some l) (aq:ver<=l.ver) (v:Value)
   (h:l.ver=ver->l.aO7 start len v) (ar:v.oneCell'=true):bq w Γ (.aZ id ver start len) v
 |map (id:Nat) (l:Loc) (ag:Γ.c0[id]? =some l) (aj:l.box=true) (aq:l.live=true):bq w Γ (.map id) (.map (some l.b))
 |fn (f:Nat) (c3:List V) (bn:Array Value) (ag:bn.size=c3.length)
   (an:∀(j:Nat)(x:V),c3[j]? =some x->bq w Γ x (bn.getD j Go.undef)):bq w Γ (.fn f c3) (.func (.func f) #[] bn)
 |agg (cells:List V) (bn:Array Value) (ag:bn.size=cells.length)
   (an:∀(j:Nat)(x:V),cells[j]? =some x->bq w Γ x (bn.getD j Go.undef)):bq w Γ (.agg cells) (.agg bn)
 |tuple (vs:List V) (bn:Array Value) (ag:bn.size=vs.length)
   (an:∀(j:Nat)(x:V),vs[j]? =some x->bq w Γ x (bn.getD j Go.undef)):bq w Γ (.tuple vs) (.tuple bn)
def ek(w:World)(Γ:Env)(xs:List V)(cs:Array Value):Prop:=
 cs.size=xs.length/\∀(j:Nat)(x:V),xs[j]? =some x->bq w Γ x (cs.getD j Go.undef)
structure Ext(w:World)(Γ:Env)(w':World)(Γ':Env):Prop where
 s:∀b o,Γ.S b o->Γ'.S b o/\lh w' b o=lh w b o
 c0:∀(i:Nat)(l:Loc),Γ.c0[i]? =some l->∃l',Γ'.c0[i]? =some l'/\l.ver<=l'.ver/\(l'.ver=l.ver->l'=l)/\(l.box=true->l'=l)
 cz:Γ'.h8=Γ.h8
 below:Below Γ.h8 w w'
 r9:∀b o,b<Γ.h8->Γ'.S b o->Γ.S b o
def GT(_:World):Prop:=True
theorem Ext.mN{w w':World}{Γ Γ':Env}(h:Ext w Γ w' Γ')(b o:Nat)(ak:Γ.S b o):Γ'.S b o/\w'.cell? ⟨b,o,none⟩=w.cell? ⟨b,o,none⟩:=⟨(h.s b o ak).1,congrArg Prod.fst (h.s b o ak).2⟩
theorem Ext.refl(w:World)(Γ:Env):Ext w Γ w Γ:=
 ⟨fun _ _ h=>⟨h,rfl⟩,fun _ l h=>⟨l,h,cH _,fun _=>rfl,fun _=>rfl⟩,rfl,Below.refl _ _,fun _ _ _ h=>h⟩
theorem Ext.trans{gL kS wv:World}{oR EY YA:Env}(h:Ext gL oR kS EY)(k:Ext kS EY wv YA):Ext gL oR wv YA where
 s b o ak:=⟨(k.s b o (h.s b o ak).1).1,((k.s b o (h.s b o ak).1).2).trans (h.s b o ak).2⟩
 c0 i l ag:=by
  obtain⟨e4,af,j7,bd,dw⟩:=h.c0 i l ag;obtain⟨mJ,az,EP,e3,mW⟩:=k.c0 i e4 af;refine⟨mJ,az,kb j7 EP,fun e=>?_,fun aj=>?_⟩
  . have aq:e4.ver=l.ver:=by omega
    have:=bd aq;subst this;exact e3 e
  . have:=dw aj
    subst this;exact mW aj
 cz:=k.cz.trans h.cz
 below:=h.below.trans (h.cz▸k.below)
 r9 b o aj ak:=h.r9 b o aj (k.r9 b o (by rw[h.cz];exact aj) ak)
theorem bq.ext{w w':World}{Γ Γ':Env}(he:Ext w Γ w' Γ'){x:V}{v:Value}(h:bq w Γ x v):bq w' Γ' x v:=by
 induction h with
 |undef v=>exact .undef v
 |bool b=>exact .bool b
 |int k n=>exact .int k n
 |str s=>exact .str s
 |dE=>exact .dE
 |gz=>exact .gz
 |jJ=>exact .jJ
 |iO c ar=>exact .iO c ar
 |lR c ar p=>exact .lR c ar p
 |slice rows c b o sz cap bn ar aD f7 fT ak dO ay an bu=>
  exact .slice rows c b o sz cap bn ar aD f7 fT (fun i j hi ap=>(he.s _ _ (ak i j hi ap)).1) (fun i j hi ap=>(he.mN _ _ (ak i j hi ap)).2.trans (dO i j hi ap)) ay bu
 |gA cells b o bn ak dO ay an bu=>
  exact .gA cells b o bn (fun j ap=>(he.s _ _ (ak j ap)).1) (fun j ap=>(he.mN _ _ (ak j ap)).2.trans (dO j ap)) ay bu
 |c7 cells b o bn aK ak dO ay an bu=>
  exact .c7 cells b o bn aK (fun j ap=>(he.s _ _ (ak j ap)).1) (fun j ap=>(he.s _ _ (ak j ap)).2.trans (dO j ap)) ay bu
 |dF f c3 bn ag ay an bu=>exact .dF f c3 bn ag ay bu
 |ptr id off l ag aj aq=>
  obtain⟨l',hH,_,_,af⟩:=he.c0 id l ag;have:=af aj;subst this;exact .ptr id off _ hH aj aq
 |fq id ver row off l ag aq v h=>
  obtain⟨l',hH,dT,af,_⟩:=he.c0 id l ag;refine .fq id ver row off l' hH (by omega) v fun e=>?_;have bd:l'.ver=l.ver:=by omega
  have:=af bd;subst this;exact h e
 |aZ id ver start len l ag aq v h ar=>
  obtain⟨l',hH,dT,af,_⟩:=he.c0 id l ag;refine .aZ id ver start len l' hH (by omega) v (fun e=>?_) ar;have bd:l'.ver=l.ver:=by omega
  have:=af bd;subst this;exact h e
 |map id l ag aj aq=>
  obtain⟨l',hH,_,_,af⟩:=he.c0 id l ag;have:=af aj;subst this;exact .map id _ hH aj aq
 |fn f c3 bn ag an bu=>exact .fn f c3 bn ag bu
 |agg cells bn ag an bu=>exact .agg cells bn ag bu
 |tuple vs bn ag an bu=>exact .tuple vs bn ag bu
theorem bq.ED{w w':World}{Γ Γ':Env}(ak:∀b o,Γ.S b o->Γ'.S b o/\lh w' b o=lh w b o){x:V}{v:Value}(h:bq w Γ x v)(ad:x.ku=true):bq w' Γ' x v:=by
 induction h with
 |bool b=>exact .bool b
 |int k n=>exact .int k n
 |str s=>exact .str s
 |dE=>exact .dE
 |gz=>exact .gz
 |jJ=>exact .jJ
 |iO c ar=>exact .iO c ar
 |lR c ar p=>exact .lR c ar p
 |slice rows c b o sz cap bn ar aD f7 fT la dO ay an bu=>
  exact .slice rows c b o sz cap bn ar aD f7 fT (fun i j hi ap=>(ak _ _ (la i j hi ap)).1) (fun i j hi ap=>(congrArg Prod.fst (ak _ _ (la i j hi ap)).2).trans (dO i j hi ap)) ay
   (fun i r j x aa af=>bu i r j x aa af (ay i r j x aa af))
 |gA cells b o bn la dO ay an bu=>
  exact .gA cells b o bn (fun j ap=>(ak _ _ (la j ap)).1) (fun j ap=>(congrArg Prod.fst (ak _ _ (la j ap)).2).trans (dO j ap)) ay (fun j x aa=>bu j x aa (ay j x aa))
 |c7 cells b o bn aK la dO ay an bu=>
  exact .c7 cells b o bn aK (fun j ap=>(ak _ _ (la j ap)).1) (fun j ap=>(ak _ _ (la j ap)).2.trans (dO j ap)) ay (fun j x aa=>bu j x aa (ay j x aa))
 |dF f c3 bn ag ay an bu=>exact .dF f c3 bn ag ay (fun j x aa=>bu j x aa (ay j x aa))
 |undef v=>cases ad
 |ptr _ _ _ _ _ _=>cases ad
 |fq _ _ _ _ _ _ _ _ _=>cases ad
 |aZ _ _ _ _ _ _ _ _ _ _=>cases ad
 |map _ _ _ _ _=>cases ad
 |fn _ _ _ _ _ _=>cases ad
 |agg _ _ _ _ _=>cases ad
 |tuple _ _ _ _ _=>cases ad
def uM(w:World)(Γ:Env)(l:Loc):a1->Prop
 |.box cells=>l.box=true/\l.live=true/\(∀o,¬Γ.S l.b o)/\∃c T,w.heap[l.b]? =some (.cells c T (0,0))/\ek w Γ cells c
 |.arr sz rows ver fz=>l.box=false/\l.sz=sz/\l.ver=ver/\fz<=rows.length/\rows.length<=l.cap/\(l.live=false->l.cap=0)/\
   (∀(i:Nat)(r:List V),rows[i]? =some r->r.length=l.sz)/\(∀(i:Nat)(r:List V)(j:Nat)(x:V),rows[i]? =some r->r[j]? =some x->x.ku=true)/\
   (l.live=true->(∀o,Γ.S l.b o↔o<fz*l.sz)/\∃c T,w.heap[l.b]? =some (.cells c T (0,0))/\c.size=l.cap*l.sz/\
     ∀(i:Nat)(r:List V)(j:Nat)(x:V),rows[i]? =some r->r[j]? =some x->bq w Γ x (c.getD (i*l.sz+j) Go.undef))
 |.map es=>l.box=true/\l.live=true/\(∀o,¬Γ.S l.b o)/\∃c9 clock,w.heap[l.b]? =some (.map c9 clock)/\c9.size=es.length/\
   (∀(i:Nat)(e:MapEntry)(cB:V×V),c9[i]? =some e->es[i]? =some cB->cB.1.qy=true/\cB.2.iK=true/\bq w Γ cB.1 e.key/\bq w Γ cB.2 e.val/\e.born=i)/\clock=es.length
 |.vec cells ver=>l.box=false/\l.sz=1/\l.ver=ver/\cells.length<=l.cap/\(l.live=false->l.cap=0)/\
   (l.live=true->(∀o,¬Γ.S l.b o)/\∃c T,w.heap[l.b]? =some (.cells c T (0,0))/\c.size=l.cap/\∀(j:Nat)(x:V),cells[j]? =some x->bq w Γ x (c.getD j Go.undef))
 |.iter mid n seen=>l.box=true/\l.live=true/\(∀o,¬Γ.S l.b o)/\∃ja,Γ.c0[mid]? =some ja/\ja.box=true/\ja.live=true/\w.heap[l.b]? =some (.mapIter (some ja.b) n seen.toArray n)
 |.dead=>l.box=false/\l.live=false
structure Good(w:World)(Γ:Env)(M:Mem):Prop where
 len:Γ.c0.length=M.length
 eL:∀(i:Nat)(l:Loc)(B:a1),Γ.c0[i]? =some l->M[i]? =some B->uM w Γ l B
 cz:∀(i:Nat)(l:Loc),Γ.c0[i]? =some l->Γ.h8<=l.b
 inj:∀(i j:Nat)(l l':Loc),Γ.c0[i]? =some l->Γ.c0[j]? =some l'->l.live=true->l'.live=true->l.b=l'.b->i=j
 jL:∀b o,Γ.S b o->∃v,w.cell? ⟨b,o,none⟩=some v
 base:Γ.h8<=w.heap.size
 jO:∀w',Below Γ.h8 w w'->GT w'
end Go.aL
namespace Go.aL
open Go.RowKit (Below)
theorem kB{w:World}{b o:Nat}{c:Array Value}{T:TypeId}{f:Nat×Nat}(h:w.heap[b]? =some (.cells c T f)):w.cell? ⟨b,o,none⟩=c[o]? :=by
 simp[World.cell?,h]
theorem jV{c:Array Value}{j:Nat}(h:j<c.size):c[j]? =some (c.getD j Go.undef):=by
 simp[h]
theorem tu{w w':World}{b o:Nat}(h:w'.heap[b]? =w.heap[b]?):w'.cell? ⟨b,o,none⟩=w.cell? ⟨b,o,none⟩:=by
 simp[World.cell?,h]
theorem wg{w w':World}{b o:Nat}(h:w'.heap[b]? =w.heap[b]?):lh w' b o=lh w b o:=by
 simp only[lh,tu h,h]
theorem OO{w w':World}{b o:Nat}{c cK:Array Value}{T Fg:TypeId}{f:Nat×Nat}(h:w.heap[b]? =some (.cells c T f))(hH:w'.heap[b]? =some (.cells cK Fg f))
 (ar:w'.cell? ⟨b,o,none⟩=w.cell? ⟨b,o,none⟩):lh w' b o=lh w b o:=by
 simp only[lh,ar,h,hH]
theorem ek.ext{w w':World}{Γ Γ':Env}(he:Ext w Γ w' Γ'){xs:List V}{cs:Array Value}(h:ek w Γ xs cs):ek w' Γ' xs cs:=
 ⟨h.1,fun j x ad=>(h.2 j x ad).ext he⟩
theorem uM.fN{w w':World}{Γ Γ':Env}(he:Ext w Γ w' Γ'){l:Loc}(cn:l.live=true->w'.heap[l.b]? =w.heap[l.b]?)(dj:l.live=true->∀o,Γ'.S l.b o->Γ.S l.b o){B:a1}(h:uM w Γ l B):uM w' Γ' l B:=by
 cases B with
 |box cells=>
  obtain⟨aa,aq,af,c,T,az,bh⟩:=h;exact⟨aa,aq,fun o aA=>af o (dj aq o aA),c,T,(cn aq).trans az,bh.ext he⟩
 |arr sz rows ver fz=>
  obtain⟨aa,a8,af,az,bh,bC,ca,dY,cp⟩:=h;refine⟨aa,a8,af,az,bh,bC,ca,dY,fun ar=>?_⟩;obtain⟨bC,c,T,cp,eU,fy⟩:=cp ar;exact⟨fun o=>⟨fun aA=>(bC o).1 (dj ar o aA),fun aA=>(he.s _ _ ((bC o).2 aA)).1⟩,c,T,(cn ar).trans cp,eU,fun i r j x an ad=>(fy i r j x an ad).ext he⟩
 |map es=>
  obtain⟨aa,aq,af,c9,clock,az,bh,bC,ca⟩:=h;exact⟨aa,aq,fun o aA=>af o (dj aq o aA),c9,clock,(cn aq).trans az,bh,fun i e cB dY cp=>by
   obtain⟨a,b,c,d,e⟩:=bC i e cB dY cp;exact⟨a,b,c.ext he,d.ext he,e⟩,ca⟩
 |vec cells ver=>
  obtain⟨aa,a8,af,bh,bC,cp⟩:=h;refine⟨aa,a8,af,bh,bC,fun ar=>?_⟩;obtain⟨bC,c,T,cp,eU,fy⟩:=cp ar;exact⟨fun o aA=>bC o (dj ar o aA),c,T,(cn ar).trans cp,eU,fun j x ad=>(fy j x ad).ext he⟩
 |iter mid n seen=>
  obtain⟨aa,aq,af,ja,az,bh,bC,ca⟩:=h;obtain⟨aLM,bI,_,_,ce⟩:=he.c0 mid ja az;have:=ce bh;subst this;exact⟨aa,aq,fun o aA=>af o (dj aq o aA),_,bI,bh,bC,(cn aq).trans ca⟩
 |dead=>exact h
theorem Ext.drew(w:World)(Γ:Env):Ext w Γ w.drew Γ:=
 ⟨fun _ _ h=>⟨h,rfl⟩,fun _ l h=>⟨l,h,cH _,fun _=>rfl,fun _=>rfl⟩,rfl,(Below.refl _ _).drew,fun _ _ _ h=>h⟩
theorem Good.yH{w w':World}{Γ Γ':Env}{M:Mem}(h:Good w Γ M)(he:Ext w Γ w' Γ'):∀gL,Below Γ'.h8 w' gL->GT gL:=fun gL aa=>
 h.jO gL (he.below.trans (he.cz▸aa))
theorem Good.drew{w:World}{Γ:Env}{M:Mem}(h:Good w Γ M):Good w.drew Γ M:=
 ⟨h.len,fun i l B ag bU=>(h.eL i l B ag bU).fN (Ext.drew w Γ) (fun _=>rfl) (fun _ _ h=>h),h.cz,h.inj,h.jL,h.base,h.yH (Ext.drew w Γ)⟩
theorem Good.m7{w:World}{Γ:Env}{M:Mem}(h:Good w Γ M){i:Nat}{l:Loc}(ag:Γ.c0[i]? =some l)(aq:l.live=true):l.b<w.heap.size:=by
 have hi:i<M.length:=by rw[<-h.len];exact(bo.1 ag).1
 have bU:=h.eL i l M[i] ag (by simp[hi]);have key:∀o,w.heap[l.b]? =some o->l.b<w.heap.size:=fun o aA=>(lp.1 aA).1;cases hm:M[i] with
 |box cells=>rw[hm] at bU;obtain⟨_,_,_,c,T,az,_⟩:=bU;exact key _ az
 |arr sz rows ver fz=>
  rw[hm] at bU;obtain⟨aa,_,_,_,_,_,_,_,cp⟩:=bU;obtain⟨_,c,T,az,_⟩:=cp aq;exact key _ az
 |map es=>rw[hm] at bU;obtain⟨_,_,_,c9,clock,az,_⟩:=bU;exact key _ az
 |vec cells ver=>
  rw[hm] at bU;obtain⟨_,_,_,_,_,cp⟩:=bU;obtain⟨_,c,T,az,_⟩:=cp aq;exact key _ az
 |iter mid n seen=>rw[hm] at bU;obtain⟨_,_,_,ja,_,_,_,az⟩:=bU;exact key _ az
 |dead=>rw[hm] at bU;rw[bU.2] at aq;cases aq
theorem Good.r5{w:World}{Γ:Env}{M:Mem}(h:Good w Γ M){b o:Nat}(ak:Γ.S b o):b<w.heap.size:=by
 obtain⟨v,aq⟩:=h.jL b o ak;exact World.block_lt_of_cell? (a:=⟨b,o,none⟩) w aq
theorem nA(w:World)(o:Obj){k:Nat}(h:k<w.heap.size):(w.alloc o).heap[k]? =w.heap[k]? :=Below.heap_alloc w o k h
theorem heap_alloc_new(w:World)(o:Obj):(w.alloc o).heap[w.heap.size]? =some o:=by
 show(w.heap.push o)[w.heap.size]? =_;simp
def Env.imm(Γ:Env)(b n:Nat):Env:={Γ with S:=fun iW o=>Γ.S iW o∨(iW=b/\o<n)}
theorem Ext.uY{w:World}{Γ:Env}{M:Mem}(h:Good w Γ M)(c:Array Value)(T:TypeId):
 Ext w Γ (w.alloc (.cells c T)) (Γ.imm w.heap.size c.size) where
 s b o ak:=⟨.inl ak,wg (nA w _ (h.r5 ak))⟩
 c0 i l ag:=⟨l,ag,cH _,fun _=>rfl,fun _=>rfl⟩
 cz:=rfl
 below:=(Below.refl _ _).alloc h.base _
 r9 b o aj ak:=by
  rcases ak with ak|⟨rfl,_⟩
  . exact ak
  . have:=h.base;omega
theorem Good.uY{w:World}{Γ:Env}{M:Mem}(h:Good w Γ M)(c:Array Value)(T:TypeId):
 Good (w.alloc (.cells c T)) (Γ.imm w.heap.size c.size) M where
 len:=h.len
 eL i l B ag bU:=(h.eL i l B ag bU).fN (Ext.uY h c T) (fun aq=>nA w _ (h.m7 ag aq)) (fun aq o aA=>by
  rcases aA with aA|⟨aj,_⟩
  . exact aA
  . have:=h.m7 ag aq;omega)
 cz:=h.cz
 inj:=h.inj
 jL b o ak:=by
  rcases ak with ak|⟨rfl,aA⟩
  . obtain⟨v,aq⟩:=h.jL b o ak
    exact⟨v,(tu (nA w _ (h.r5 ak))).trans aq⟩
  . exact⟨c.getD o Go.undef,by rw[kB (heap_alloc_new w _)];exact jV aA⟩
 base:=by show Γ.h8<=_;have:=h.base;simp;omega
 jO:=h.yH (Ext.uY h c T)
def Env.more(Γ:Env)(l:Loc):Env:={Γ with c0:=Γ.c0++[l]}
theorem Ext.o0{w:World}{Γ:Env}{M:Mem}(h:Good w Γ M)(o:Obj)(l:Loc):Ext w Γ (w.alloc o) (Γ.more l) where
 s b o ak:=⟨ak,wg (nA w _ (h.r5 ak))⟩
 c0 i l ag:=⟨l,by
  have hi:i<Γ.c0.length:=(bo.1 ag).1;simp only[Env.more];rw[gp hi,ag],cH _,fun _=>rfl,fun _=>rfl⟩
 cz:=rfl
 below:=(Below.refl _ _).alloc h.base _
 r9 b o aj ak:=ak
theorem Good.o0{w:World}{Γ:Env}{M:Mem}(h:Good w Γ M)(o:Obj)(l:Loc)(ii:l.b=w.heap.size)(B:a1)
 (bU:uM (w.alloc o) (Γ.more l) l B):Good (w.alloc o) (Γ.more l) (M++[B]):=by
 have split:∀i l',(Γ.more l).c0[i]? =some l'->(i<M.length/\Γ.c0[i]? =some l')∨(i=M.length/\l'=l):=by
  intro i l' ag;simp only[Env.more] at ag;by_cases hi:i<Γ.c0.length
  . rw[gp hi] at ag
    exact .inl ⟨by rw[<-h.len];exact hi,ag⟩
  . rw[j_ (Nat.le_of_not_lt hi)] at ag
    have:i -Γ.c0.length=0:=by
     have:=(bo.1 ag).1;simp at this;omega
    rw[this] at ag;simp at ag;exact .inr ⟨by rw[<-h.len];omega,ag.symm⟩
 refine⟨by simp[Env.more,h.len],fun i l' qV ag ih=>?_,fun i l' ag=>?_,fun i j cZ e4 aa af nj j7 aj=>?_,fun b o ak=>?_,?_,h.yH (Ext.o0 h o l)⟩
 . rcases split i l' ag with⟨hi,er⟩|⟨hi,rfl⟩
   . rw[gp hi] at ih
     exact(h.eL i l' qV er ih).fN (Ext.o0 h o l) (fun aq=>nA w _ (h.m7 er aq)) (fun _ _ h=>h)
   . subst hi
     simp at ih;subst ih;exact bU
 . rcases split i l' ag with⟨hi,er⟩|⟨hi,rfl⟩
   . exact h.cz i l' er
   . show Γ.h8<=_;rw[ii];exact h.base
 . rcases split i cZ aa with⟨hi,fc⟩|⟨hi,rfl⟩<;>rcases split j e4 af with⟨ap,gP⟩|⟨ap,rfl⟩
   . exact h.inj i j cZ e4 fc gP nj j7 aj
   . have:=h.m7 fc nj;omega
   . have:=h.m7 gP j7;omega
   . omega
 . obtain⟨v,aq⟩:=h.jL b o ak
   exact⟨v,(tu (nA w _ (h.r5 ak))).trans aq⟩
 . have:=h.base;simp[Env.more];omega
theorem Good.v5{w:World}{Γ:Env}{M:Mem}(h:Good w Γ M)(o:Nat):¬Γ.S w.heap.size o:=fun ak=>by
 have:=h.r5 ak;omega
def nr(b:Nat):Loc:=⟨b,true,true,0,0,0⟩
theorem Good.Qr{w:World}{Γ:Env}{M:Mem}(h:Good w Γ M)(c:Array Value)(T:TypeId)(cells:List V)(an:ek w Γ cells c):
 Good (w.alloc (.cells c T)) (Γ.more (nr w.heap.size)) (M++[.box cells])/\Ext w Γ (w.alloc (.cells c T)) (Γ.more (nr w.heap.size))/\
  bq (w.alloc (.cells c T)) (Γ.more (nr w.heap.size)) (.ptr M.length 0) (.pointer (some ⟨w.heap.size,0,none⟩)):=by
 have he:=Ext.o0 h (.cells c T) (nr w.heap.size);refine⟨h.o0 _ _ rfl _ ⟨rfl,rfl,fun o aA=>h.v5 o aA,c,T,heap_alloc_new w _,an.ext he⟩,he,?_⟩;exact .ptr M.length 0 (nr w.heap.size) (by simp[Env.more,<-h.len]) rfl rfl
theorem Good.allocMap{w:World}{Γ:Env}{M:Mem}(h:Good w Γ M):
 Good (w.alloc (.map #[] 0)) (Γ.more (nr w.heap.size)) (M++[.map []])/\Ext w Γ (w.alloc (.map #[] 0)) (Γ.more (nr w.heap.size))/\
  bq (w.alloc (.map #[] 0)) (Γ.more (nr w.heap.size)) (.map M.length) (.map (some w.heap.size)):=by
 have he:=Ext.o0 h (.map #[] 0) (nr w.heap.size);refine⟨h.o0 _ _ rfl _ ⟨rfl,rfl,fun o aA=>h.v5 o aA,#[],0,heap_alloc_new w _,rfl,fun i e cB aa=>by simp at aa,rfl⟩,he,?_⟩;exact .map M.length (nr w.heap.size) (by simp[Env.more,<-h.len]) rfl rfl
theorem Good.abU{w:World}{Γ:Env}{M:Mem}(h:Good w Γ M){mid n:Nat}{ja:Loc}(ag:Γ.c0[mid]? =some ja)(aj:ja.box=true)(aq:ja.live=true):
 Good (w.alloc (.mapIter (some ja.b) n #[] n)) (Γ.more (nr w.heap.size)) (M++[.iter mid n []])/\Ext w Γ (w.alloc (.mapIter (some ja.b) n #[] n)) (Γ.more (nr w.heap.size))/\
  bq (w.alloc (.mapIter (some ja.b) n #[] n)) (Γ.more (nr w.heap.size)) (.ptr M.length 0) (.pointer (some ⟨w.heap.size,0,none⟩)):=by
 have he:=Ext.o0 h (.mapIter (some ja.b) n #[] n) (nr w.heap.size);obtain⟨aLM,bI,_,_,ce⟩:=he.c0 mid ja ag;have:=ce aj;subst this;refine⟨h.o0 _ _ rfl _ ⟨rfl,rfl,fun o aA=>h.v5 o aA,_,bI,aj,aq,heap_alloc_new w _⟩,he,?_⟩;exact .ptr M.length 0 (nr w.heap.size) (by simp[Env.more,<-h.len]) rfl rfl
theorem Ext.write{w w':World}{Γ:Env}{M:Mem}(h:Good w Γ M){id:Nat}{l:Loc}(ag:Γ.c0[id]? =some l)
 (cn:∀k,k≠l.b->w'.heap[k]? =w.heap[k]?)(fT:w'.heap.size=w.heap.size)(aA:w'.os=w.os)(aV:w'.tape=w.tape)(aJJ:w'.output=w.output)
 (ar:∀o,Γ.S l.b o->lh w' l.b o=lh w l.b o):Ext w Γ w' Γ where
 s b o ak:=⟨ak,by
  by_cases aj:b=l.b
  . subst aj;exact ar o ak
  . exact wg (cn b aj)⟩
 c0 i l ag:=⟨l,ag,cH _,fun _=>rfl,fun _=>rfl⟩
 cz:=rfl
 below:=⟨aA,aV,aJJ,by omega,fun k ao=>cn k (by have:=h.cz id l ag;omega)⟩
 r9 b o _ ak:=ak
theorem Good.write{w w':World}{Γ:Env}{M:Mem}(h:Good w Γ M){id:Nat}{l:Loc}(ag:Γ.c0[id]? =some l)(aq:l.live=true)(he:Ext w Γ w' Γ)
 (cn:∀k,k≠l.b->w'.heap[k]? =w.heap[k]?){B:a1}(bU:uM w' Γ l B):Good w' Γ (M.set id B) where
 len:=by rw[eR];exact h.len
 eL i l' qV er ih:=by
  by_cases hi:id=i
  . subst hi
    have bx:id<M.length:=by rw[<-h.len];exact(bo.1 ag).1
    rw[eB bx] at ih;simp only[aW] at ih;subst ih;rw[ag] at er;simp only[aW] at er;subst er;exact bU
  . rw[dv hi] at ih
    exact(h.eL i l' qV er ih).fN he (fun rN=>cn _ (fun aj=>hi (h.inj id i l l' ag er aq rN aj.symm))) (fun _ _ h=>h)
 cz:=h.cz
 inj:=h.inj
 jL b o ak:=by
  obtain⟨v,aq⟩:=h.jL b o ak;exact⟨v,(he.mN b o ak).2.trans aq⟩
 base:=kb h.base he.below.size
 jO:=h.yH he
theorem aIe(w:World)(a:Addr)(u:Value){k:Nat}(h:k≠a.block):(w.setCell a u).heap[k]? =w.heap[k]? :=Below.heap_setCell w a u k h
theorem aId(w:World)(b o:Nat)(u:Value){c:Array Value}{T:TypeId}{f:Nat×Nat}(h:w.heap[b]? =some (.cells c T f)):
 (w.setCell ⟨b,o,none⟩ u).heap[b]? =some (.cells (c.setIfInBounds o u) T f):=by
 show(w.heap.modify b _)[b]? =_;rw[Array.getElem?_modify,if_pos rfl,h];rfl
theorem ek.set{w:World}{Γ:Env}{xs:List V}{cs:Array Value}(h:ek w Γ xs cs){o:Nat}{x:V}{v:Value}(ad:bq w Γ x v):ek w Γ (xs.set o x) (cs.setIfInBounds o v):=by
 refine⟨by simp[h.1],fun j y aE=>?_⟩;by_cases ap:o=j
 . subst ap
   have bx:o<xs.length:=by
    have:=(bo.1 aE).1;simpa using this
   rw[eB bx] at aE;simp only[aW] at aE;subst aE;have:o<cs.size:=by rw[h.1];exact bx
   simpa[iq,this] using ad
 . rw[dv ap] at aE
   have:=h.2 j y aE;simpa[iq,Array.getElem?_setIfInBounds_ne ap] using this
theorem Good.acJ{w:World}{Γ:Env}{M:Mem}(h:Good w Γ M){id o:Nat}{l:Loc}(ag:Γ.c0[id]? =some l){cells:List V}(a7:M[id]? =some (.box cells)){x:V}(ad:cells[o]? =some x):
 ∃v,w.cell? ⟨l.b,o,none⟩=some v/\bq w Γ x v/\w.frozen? ⟨l.b,o,none⟩=false:=by
 obtain⟨aa,aq,af,c,T,az,bh⟩:=h.eL id l _ ag a7;have aA:o<c.size:=by rw[bh.1];exact(bo.1 ad).1
 refine⟨c.getD o Go.undef,by rw[kB az];exact jV aA,bh.2 o x ad,by simp[World.frozen?,az]⟩
theorem Good.aLV{w:World}{Γ:Env}{M:Mem}(h:Good w Γ M){id:Nat}{B:a1}(a7:M[id]? =some B):∃l,Γ.c0[id]? =some l:=by
 have:id<Γ.c0.length:=by rw[h.len];exact(bo.1 a7).1
 exact⟨Γ.c0[id],by simp[this]⟩
end Go.aL
namespace Go.aL
inductive aU where
 |tmp (t:Nat)
 |const (v:V)
 deriving Inhabited
inductive fE where
 |bool|int|str
 deriving DecidableEq
inductive fv where
 |bool|int|str
 |cells (cA:List fE)
 deriving DecidableEq
inductive iU where
 |none|bool|ptr|slice|map|fn
 |cells (cA:List fE)
inductive dM where
 |nQ (x:aU)
 |pI (sz:Nat)
 |pick (c a b:aU)
 |alloc (zero:List V)
 |box (n:Nat) (x:aU)
 |build (zero:List V) (d3:List (Nat×Nat×aU))
 |buildSlice (zero:List V) (sz len:Nat) (d3:List (Nat×Nat×aU))
 |rf (zero:List V) (len:Nat) (d3:List (Nat×Nat×aU))
 |load (n:Nat) (bZ:Bool) (a:aU)
 |store (n:Nat) (a x:aU)
 |nilCheck (x:aU)
 |bin (op:BinOp) (k:iU) (x y:aU)
 |un (op:UnOp) (x:aU)
 |conv (k:IntKind) (x:aU)
 |tv (x:aU)
 |rh (x:aU)
 |lO (f:Nat) (c3:List aU)
 |makeSlice (zero:List V) (sz bytes:Nat) (l c:aU)
 |v3 (zero:V) (bytes:Nat) (l c:aU)
 |slice (sz:Nat) (x:aU) (lo hi mx:Option aU)
 |uG (x:aU) (lo hi:Option aU)
 |fieldAddr (off:Nat) (x:aU)
 |field (off n:Nat) (bZ:Bool) (x:aU)
 |gy (len sz:Nat) (x i:aU)
 |mH (sz:Nat) (x i:aU)
 |pD (x i:aU)
 |uf (len sz:Nat) (bZ:Bool) (x i:aU)
 |sT (x:aU)
 |nJ (x:aU)
 |uj (n:Nat)
 |append (imm:Bool) (sz bytes:Nat) (s x:aU)
 |nP (mx:Bool) (x y:aU)
 |extract (x:aU) (i:Nat)
 |makeMap (r:Option aU)
 |lookup (c:fv) (zero:List V) (bZ ok:Bool) (m k:aU)
 |mapUpdate (c:fv) (m k x:aU)
 |mapEntry (c:fv) (zero:V) (m k:aU)
 |entryStore (m st x:aU)
 |copy (sz:Nat) (d x:aU)
 |uF (sz:Nat) (x h m:aU)
 |um (x:aU)
 |rV (x:aU)
 |call (f:Nat) (args:List aU)
 |fX (f:aU) (args:List aU)
 |oG (neg:Bool) (x y:aU)
 |ux (x:aU)
 |rW (x:aU)
 |tx (x:aU)
 |uk (x:aU)
 deriving Inhabited
structure bw where
 dst:Option Nat
 op:dM
 bz:Bool
 guard:Option (Nat×Bool)
 deriving Inhabited
inductive a6 where
 |skip
 |region (aF:List bw) (live:List Nat)
 |mixed (aF:List bw) (dR:List Bool) (live:List Nat)
 |float (aF:List bw) (bL:List (Option (List Nat))) (live:List Nat)
 |sE (c:Nat) (z:List V) (aF:List bw) (bL:List (Option (List Nat))) (live:List Nat)
 |seq (a b:a6)
 |cond (c:aU) (a b:a6)
 |block (id:Nat) (a:a6)
 |loop (live:List Nat) (a:a6)
 |scope (l:Nat) (live:List Nat) (a dB:a6)
 |exit (id:Nat)
 |label
 |goto (l:Nat)
 |ret
 deriving Inhabited
inductive mn where
 |tmp (t:Nat)
 |cell (t n:Nat) (bZ:Bool)
structure bs where
 ntmps:Nat
 results:List mn
 body:a6
abbrev aI:=List (Nat×V)
def aX:aI->Nat->V
 |[],_=>.undef
 |(t,v)::s,u=>bif t==u then v else aX s u
def eP(s:aI)(u:Nat)(x:V):aI:=(u,x)::s
def bA(s:aI):Option Nat->V->aI
 |some d,v=>eP s d v
 |none,_=>s
def g7(s:aI):List Nat->aI
 |[]=>[]
 |t::ip=>(t,aX s t)::g7 s ip
def dr(s:aI):List Nat->List V
 |[]=>[]
 |t::ip=>aX s t::dr s ip
def ln:List Nat->List V->aI
 |t::ip,v::vs=>(t,v)::ln ip vs
 |_,_=>[]
def r8:List V->Nat->aI
 |[],_=>[]
 |v::vs,i=>(i,v)::r8 vs (i+1)
def aP(s:aI):aU->V
 |.tmp t=>aX s t
 |.const v=>v
def eM(s:aI):Option aU->Option V
 |some x=>some (aP s x)
 |none=>none
def e_(s:aI):List aU->List V
 |[]=>[]
 |x::xs=>aP s x::e_ s xs
def kk(s:aI):List (Nat×Nat×aU)->List (Nat×Nat×V)
 |[]=>[]
 |(a,b,x)::xs=>(a,b,aP s x)::kk s xs
def V.cells?:V->Option (List V)
 |.agg cs=>some cs
 |.undef=>none
 |.tuple _=>none
 |v=>some [v]
def g5:List V->Nat->List V->List V
 |cells,_,[]=>cells
 |cells,off,x::xs=>g5 (cells.set off x) (off+1) xs
def nq:List V->Bool
 |[]=>true
 |x::xs=>x.iK&&nq xs
def hC:List V->Bool
 |[]=>true
 |x::xs=>x.ku&&hC xs
def pb:List V->List (Nat×Nat×V)->Option (List V)
 |cells,[]=>some cells
 |cells,(off,size,v)::dB=>
  match v.cells? with
  |some cs=>bif cs.length==size&&decide (off+size<=cells.length) then pb (g5 cells off cs) dB else none
  |none=>none
def sx(sz:Nat):Nat->List V->List (List V)
 |0,_=>[]
 |n+1,cells=>cells.take sz::sx sz n (cells.drop sz)
def iM(n:Nat)(bZ:Bool)(cells:List V)(off:Nat):Option V:=
 match bZ with
 |true=>bif decide (off+n<=cells.length) then some (.agg ((cells.drop off).take n)) else none
 |false=>cells[off]?
mutual
def V.under(n:Nat):V->Bool
 |.ptr id _=>decide (id<n)
 |.fq id _ _ _=>decide (id<n)
 |.aZ id _ _ _=>decide (id<n)
 |.map id=>decide (id<n)
 |.fn _ c3=>cT n c3
 |.agg cells=>cT n cells
 |.tuple vs=>cT n vs
 |_=>true
def cT(n:Nat):List V->Bool
 |[]=>true
 |x::xs=>V.under n x&&cT n xs
end
def ni(n:Nat):List (V×V)->Bool
 |[]=>true
 |(_,v)::es=>v.under n&&ni n es
def a1.under(n:Nat):a1->Bool
 |.box cells=>cT n cells
 |.vec cells _=>cT n cells
 |.map es=>ni n es
 |.iter mid _ _=>decide (mid<n)
 |_=>true
def cq(n:Nat):Mem->Bool
 |[]=>true
 |B::M=>B.under n&&cq n M
def ra(op:BinOp)(k:IntKind)(x y:Int):Option V:=
 match op with
 |.and=>some (.int k (k.wrap ((iD k.bits x&&&iD k.bits y).toNat:Int)))
 |.or=>some (.int k (k.wrap ((iD k.bits x|||iD k.bits y).toNat:Int)))
 |.xor=>some (.int k (k.wrap ((iD k.bits x^^^iD k.bits y).toNat:Int)))
 |.andNot=>some (.int k (k.wrap ((iD k.bits x&&&~~~iD k.bits y).toNat:Int)))
 |_=>none
def k3(op:BinOp)(k:IntKind)(a b:Int):Option V:=
 match op with
 |.add=>some (.int k (k.wrap (a+b)))
 |.sub=>some (.int k (k.wrap (a -b)))
 |.mul=>some (.int k (k.wrap (a*b)))
 |.quo=>bif decide (b=0) then none else some (.int k (k.wrap (a.tdiv b)))
 |.rem=>bif decide (b=0) then none else some (.int k (a.tmod b))
 |.eql=>some (.bool (decide (a=b)))
 |.neq=>some (.bool (!decide (a=b)))
 |.lss=>some (.bool (decide (a<b)))
 |.leq=>some (.bool (decide (a<=b)))
 |.gtr=>some (.bool (decide (b<a)))
 |.geq=>some (.bool (decide (b<=a)))
 |.shl|.shr=>none
 |.and=>ra .and k a b
 |.or=>ra .or k a b
 |.xor=>ra .xor k a b
 |.andNot=>ra .andNot k a b
def QJ(op:BinOp)(a b:List UInt8):Option V:=
 match op with
 |.add=>bif decide (((a.length+b.length:Nat):Int)<=9223372036854775807) then some (.str (a++b)) else none
 |.eql=>some (.bool (decide (a=b)))
 |.neq=>some (.bool (!decide (a=b)))
 |.lss=>some (.bool (Op.bytesLess a b))
 |.leq=>some (.bool (Op.bytesLess a b||decide (a=b)))
 |.gtr=>some (.bool (!(Op.bytesLess a b||decide (a=b))))
 |.geq=>some (.bool (!Op.bytesLess a b))
 |_=>none
def oL(op:BinOp)(k:IntKind)(a b:Int):Option V:=
 bif decide (b<0) then none else
 match op with
 |.shl=>some (.int k (k.wrap (a*2^(min b.toNat k.bits))))
 |.shr=>some (.int k (a.fdiv (2^(min b.toNat k.bits))))
 |_=>none
def hE:fE->V->V->Option Bool
 |.int,.int k a,.int dk b=>bif decide (k=dk) then some (decide (a=b)) else none
 |.bool,.bool a,.bool b=>some (decide (a=b))
 |.str,.str a,.str b=>some (decide (a=b))
 |_,_,_=>none
def gG:List fE->List V->List V->Option Bool
 |[],_,_=>some true
 |c::cs,x::xs,y::bH=>
  match hE c x y,gG cs xs bH with
  |some b,some d=>some (b&&d)
  |_,_=>none
 |_,_,_=>none
def iO:V->Option Bool
 |.slice _ .nil=>some true
 |.slice _ .full=>some false
 |.slice _ .any=>some false
 |.slice (_::_) .cx=>some false
 |_=>none
def aM2:V->Bool
 |.gA _|.c7 _|.dF _ _|.ptr _ _|.fq _ _ _ _|.fn _ _=>true
 |_=>false
def lG(x y:V):iU->Option Bool
 |.bool=>
  match x,y with
  |.bool a,.bool b=>some (decide (a=b))
  |_,_=>none
 |.cells cA=>
  match x,y with
  |.agg xs,.agg bH=>gG cA xs bH
  |_,_=>none
 |.ptr=>
  match x,y with
  |.dE,.dE=>some true
  |.dE,.gA _|.dE,.c7 _|.dE,.ptr _ _|.gA _,.dE|.c7 _,.dE|.ptr _ _,.dE=>some false
  |_,_=>none
 |.slice=>
  match x,y with
  |.slice _ .nil,y=>iO y
  |x,.slice _ .nil=>iO x
  |_,_=>none
 |.map=>
  match x,y with
  |.jJ,.jJ=>some true
  |.jJ,.map _|.map _,.jJ=>some false
  |_,_=>none
 |.fn=>
  match x,y with
  |.gz,.gz=>some true
  |.gz,.dF _ _|.gz,.fn _ _|.dF _ _,.gz|.fn _ _,.gz=>some false
  |_,_=>none
 |.none=>none
def dN(op:BinOp)(kC:iU)(x y:V):Option V:=
 match x,y with
 |.int k a,.int dk b=>
  match op with
  |.shl=>oL .shl k a b
  |.shr=>oL .shr k a b
  |op=>bif decide (k=dk) then k3 op k a b else none
 |.str a,.str b=>QJ op a b
 |x,y=>
  match op with
  |.eql=>(lG x y kC).map .bool
  |.neq=>(lG x y kC).map fun b=>.bool !b
  |_=>none
def wn(op:UnOp)(x:V):Option V:=
 match op,x with
 |.neg,.int k n=>some (.int k (k.wrap (0 -n)))
 |.xor,.int k n=>ra .xor k (if k.signed then-1 else k.max) n
 |.not,.bool b=>some (.bool !b)
 |_,_=>none
def sU(mx:Bool)(x y:V):Option V:=
 match x,y with
 |.int k a,.int dk b=>
  bif decide (k=dk) then
   match mx with
   |true=>some (.int k (if b>a then b else a))
   |false=>some (.int k (if b<a then b else a))
  else none
 |_,_=>none
def kL(off:Nat):V->Option V
 |.gA cells=>bif decide (off<=cells.length) then some (.gA (cells.drop off)) else none
 |.c7 cells=>bif decide (off<=cells.length) then some (.gA (cells.drop off)) else none
 |.ptr id o=>some (.ptr id (o+off))
 |.fq id v row o=>some (.fq id v row (o+off))
 |_=>none
def EQ(n:Nat)(bZ:Bool)(off:Nat)(cells:List V)(row:Nat):Option V:=
 match n,bZ,off with
 |1,false,0=>cells[row]?
 |_,_,_=>none
def KN(off:Nat)(xs:List V)(cells:List V)(row:Nat):Option (List V):=
 match off,xs with
 |0,[x]=>bif decide (row<cells.length) then some (cells.set row x) else none
 |_,_=>none
def g4(n:Nat)(bZ:Bool)(a:V)(M:Mem):Option V:=
 match a with
 |.gA cells=>iM n bZ cells 0
 |.c7 cells=>iM n bZ cells 0
 |.ptr id off=>
  match M[id]? with
  |some (.box cells)=>iM n bZ cells off
  |_=>none
 |.fq id ver row off=>
  match M[id]? with
  |some (.arr _ rows v _)=>
   bif v==ver then
    match rows[row]? with
    |some r=>iM n bZ r off
    |none=>none
   else none
  |some (.vec cells v)=>bif v==ver then EQ n bZ off cells row else none
  |_=>none
 |_=>none
def Kw(n:Nat)(a x:V)(M:Mem):Option Mem:=
 match x.cells? with
 |some xs=>
  bif xs.length==n&&nq xs then
   match a with
   |.ptr id off=>
    match M[id]? with
    |some (.box cells)=>bif decide (off+n<=cells.length) then some (M.set id (.box (g5 cells off xs))) else none
    |_=>none
   |.fq id ver row off=>
    match M[id]? with
    |some (.arr sz rows v fz)=>
     bif v==ver&&decide (fz<=row)&&hC xs then
      match rows[row]? with
      |some r=>bif decide (off+n<=r.length) then some (M.set id (.arr sz (rows.set row (g5 r off xs)) v fz)) else none
      |none=>none
     else none
    |some (.vec cells v)=>
     bif v==ver then
      match KN off xs cells row with
      |some cs=>some (M.set id (.vec cs v))
      |none=>none
     else none
    |_=>none
   |_=>none
  else none
 |none=>none
def fr(n:Nat):List (List V)->Bool
 |[]=>true
 |r::_=>r.length==n
def eK(sz:Nat)(M:Mem):V->Option (List (List V))
 |.slice rows _=>bif fr sz rows then some rows else none
 |.aZ id ver start len=>
  match M[id]? with
  |some (.arr z rows v _)=>bif z==sz&&v==ver&&decide (start+len<=rows.length) then some ((rows.drop start).take len) else none
  |_=>none
 |_=>none
def g0(imm:Bool)(sz bytes:Nat)(s:V)(xr:List (List V))(M:Mem):Option (V×Mem):=
 match s with
 |.slice rows c=>
  bif fr sz rows&&(decide (c=.nil)||decide (c=.full))&&decide ((rows.length+xr.length)*(2*bytes)<=2^48) then
   match imm with
   |true=>some (.slice (rows++xr) .cx,M)
   |false=>
    match xr with
    |[]=>some (.slice rows c,M)
    |_=>some (.aZ M.length 0 0 (rows.length+xr.length),M++[.arr sz (rows++xr) 0 0])
  else none
 |.aZ id ver 0 len=>
  match M[id]? with
  |some (.arr z rows v fz)=>
   bif z==sz&&v==ver&&len==rows.length&&decide ((rows.length+xr.length)*(2*bytes)<=2^48) then
    some (.aZ id (ver+1) 0 (len+xr.length),M.set id (.arr sz (rows++xr) (ver+1) fz))
   else bif z==sz&&v==ver&&decide (len<=rows.length)&&decide (fz<=len)&&decide ((len+xr.length)*(2*bytes)<=2^48) then
    some (.aZ id (ver+1) 0 (len+xr.length),M.set id (.arr sz (rows.take len++xr) (ver+1) fz))
   else none
  |some (.vec cells v)=>
   match xr with
   |[[x]]=>
    bif sz==1&&v==ver&&len==cells.length&&decide ((cells.length+1)*(2*bytes)<=2^48) then
     some (.aZ id (ver+1) 0 (len+1),M.set id (.vec (cells++[x]) (ver+1)))
    else none
   |_=>none
  |_=>none
 |_=>none
def iG(d:Nat):Option V->Option Nat
 |none=>some d
 |some (.int _ i)=>bif decide (0<=i) then some i.toNat else none
 |some _=>none
def ns(c:c4)(h m len:Nat)(mx:Bool):c4:=
 match c with
 |.nil=>.nil
 |.cx=>.cx
 |.any=>bif mx&&(h==m) then .full else .any
 |.full=>bif mx then(bif h==m then .full else .any) else bif h==len then .full else .any
def hf(sz:Nat)(x:V)(lo hi mx:Option V)(M:Mem):Option V:=
 match x with
 |.slice rows c=>
  match iG 0 lo,iG rows.length hi,iG rows.length mx with
  |some l,some h,some m=>
   bif fr sz rows&&decide (l<=h)&&decide (h<=m)&&decide (m<=rows.length) then
    some (.slice ((rows.drop l).take (h -l)) (ns c h m rows.length mx.isSome))
   else none
  |_,_,_=>none
 |.aZ id ver start len=>
  match M[id]? with
  |some (.arr z rows v _)=>
   match iG 0 lo,iG len hi,iG len mx with
   |some l,some h,some m=>bif z==sz&&v==ver&&decide (start+len<=rows.length)&&decide (l<=h)&&decide (h<=m)&&decide (m<=len) then some (.aZ id ver (start+l) (h -l)) else none
   |_,_,_=>none
  |_=>none
 |_=>none
def AP(x:V)(lo hi:Option V):Option V:=
 match x with
 |.str s=>
  match iG 0 lo,iG s.length hi with
  |some l,some h=>bif decide (l<=h)&&decide (h<=s.length) then some (.str ((s.drop l).take (h -l))) else none
  |_,_=>none
 |_=>none
def iz(sz:Nat)(x i:V)(M:Mem):Option V:=
 match i with
 |.int _ i=>
  bif decide (0<=i) then
   match x with
   |.slice rows _=>
    match rows[i.toNat]? with
    |some r=>bif r.length==sz then some (.gA r) else none
    |none=>none
   |.aZ id ver start len=>
    match M[id]? with
    |some (.arr z rows v _)=>bif z==sz&&v==ver&&decide (i.toNat<len)&&decide (start+len<=rows.length) then some (.fq id ver (start+i.toNat) 0) else none
    |some (.vec cells v)=>bif sz==1&&v==ver&&decide (i.toNat<len)&&decide (start+len<=cells.length) then some (.fq id ver (start+i.toNat) 0) else none
    |_=>none
   |_=>none
  else none
 |_=>none
def pC(len sz:Nat)(x i:V):Option V:=
 match i with
 |.int _ i=>bif decide (0<=i)&&decide (i<(len:Int)) then kL (i.toNat*sz) x else none
 |_=>none
def vU(x i:V):Option V:=
 match x,i with
 |.str s,.int _ i=>
  bif decide (0<=i) then
   match s[i.toNat]? with
   |some b=>some (.int .u8 b.toNat)
   |none=>none
  else none
 |_,_=>none
def An(len sz:Nat)(bZ:Bool)(x i:V):Option V:=
 match x,i with
 |.agg cells,.int _ i=>bif decide (0<=i)&&decide (i<(len:Int)) then iM sz bZ cells (i.toNat*sz) else none
 |_,_=>none
def iA(x:V)(M:Mem):Option V:=
 match x with
 |.slice rows _=>some (.int .i64 rows.length)
 |.aZ id ver _ len=>
  match M[id]? with
  |some (.arr _ _ v _)=>bif v==ver then some (.int .i64 len) else none
  |some (.vec _ v)=>bif v==ver then some (.int .i64 len) else none
  |_=>none
 |_=>none
def h1:fv->V->V->Option Bool
 |.bool,x,y=>hE .bool x y
 |.int,x,y=>hE .int x y
 |.str,x,y=>hE .str x y
 |.cells cA,.agg xs,.agg bH=>bif xs.length==cA.length&&bH.length==cA.length then gG cA xs bH else none
 |.cells _,_,_=>none
def rT(c:fv)(key:V):List (V×V)->Option V
 |[]=>none
 |(k,v)::es=>bif (h1 c key k).getD false then some v else rT c key es
def hO(c:fv)(key:V):List (V×V)->Nat->Option Nat
 |[],_=>none
 |(k,_)::es,n=>bif (h1 c key k).getD false then some n else hO c key es (n+1)
def oB(c:fv)(key val:V):List (V×V)->List (V×V)
 |[]=>[(key,val)]
 |(k,v)::es=>bif (h1 c key k).getD false then(key,val)::es else(k,v)::oB c key val es
def vX:fE->V->Bool
 |.int,.int _ _=>true
 |.str,.str _=>true
 |.bool,.bool _=>true
 |_,_=>false
def wM:List fE->List V->Bool
 |[],[]=>true
 |c::cs,x::xs=>vX c x&&wM cs xs
 |_,_=>false
def kI:fv->V->Bool
 |.int,x=>vX .int x
 |.str,x=>vX .str x
 |.bool,x=>vX .bool x
 |.cells cA,.agg xs=>wM cA xs
 |.cells _,_=>false
def nI(c:fv)(key:V):List (V×V)->Bool
 |[]=>true
 |(k,_)::es=>(h1 c key k).isSome&&nI c key es
def m9(c:fv)(M:Mem)(m key:V):Option (Option V):=
 bif kI c key then
  match m with
  |.jJ=>some none
  |.map id=>
   match M[id]? with
   |some (.map es)=>bif nI c key es then some (rT c key es) else none
   |_=>none
  |_=>none
 else none
def FF(bZ:Bool)(cells:List V):Option V:=
 match bZ,cells with
 |true,cs=>some (.agg cs)
 |false,[x]=>some x
 |false,_=>none
def oA(c:fv)(zero:List V)(bZ ok:Bool)(m key:V)(M:Mem):Option V:=
 match m9 c M m key,FF bZ zero with
 |some (some v),some _=>some (match ok with|true=>.tuple [v,.bool true]|false=>v)
 |some none,some z=>some (match ok with|true=>.tuple [z,.bool false]|false=>z)
 |_,_=>none
def N_(c:fv)(m key x:V)(M:Mem):Option Mem:=
 match m with
 |.map id=>
  match M[id]? with
  |some (.map es)=>bif kI c key&&nI c key es&&x.iK then some (M.set id (.map (oB c key x es))) else none
  |_=>none
 |_=>none
def ul(c:fv)(zero m key:V)(M:Mem):Option (V×Mem):=
 match m with
 |.map id=>
  match M[id]? with
  |some (.map es)=>
   bif kI c key&&nI c key es then
    match hO c key es 0 with
    |some i=>(es[i]?).map fun cB=>(.tuple [cB.2,.int .i64 i],M.set id (.map (es.set i (key,cB.2))))
    |none=>some (.tuple [zero,.int .i64 es.length],M.set id (.map (es++[(key,zero)])))
   else none
  |_=>none
 |_=>none
def w2(m st x:V)(M:Mem):Option (V×Mem):=
 match m,st with
 |.map id,.int _ i=>
  match M[id]? with
  |some (.map es)=>
   bif decide (0<=i)&&x.iK then
    (es[i.toNat]?).map fun cB=>(.undef,M.set id (.map (es.set i.toNat (cB.1,x))))
   else none
  |_=>none
 |_,_=>none
def oF(rows:List (List V)):Nat->List (List V)->List (List V)
 |_,[]=>rows
 |i,r::rs=>oF (rows.set i r) (i+1) rs
def u4(sz:Nat)(d x:V)(M:Mem):Option (V×Mem):=
 match d,eK sz M x with
 |.aZ id ver start len,some xr=>
  match M[id]? with
  |some (.arr z rows v fz)=>
   bif z==sz&&v==ver&&decide (start+len<=rows.length)&&decide (fz<=start) then
    some (.int .i64 (min len xr.length:Nat),M.set id (.arr z (oF rows start (xr.take len)) v fz))
   else none
  |_=>none
 |_,_=>none
def yz(sz:Nat)(x h m:V)(M:Mem):Option (V×Mem):=
 match x with
 |.aZ id ver 0 len=>
  match M[id]?,h,m with
  |some (.arr z rows v fz),.int _ a,.int _ b=>
   bif z==sz&&v==ver&&decide (len<=rows.length)&&decide (0<=a)&&decide (a=b)&&decide (a.toNat<=len)&&decide (0<rows.length) then
    some (.slice (rows.take a.toNat) .full,M.set id (.arr z rows v (max fz a.toNat)))
   else none
  |_,_,_=>none
 |.slice rows c=>(hf sz (.slice rows c) none (some h) (some m) M).map (·,M)
 |_=>none
def oC(x:V)(M:Mem):Option (V×Mem):=
 match x with
 |.aZ id ver 0 len=>
  match M[id]? with
  |some (.arr z rows v fz)=>
   bif v==ver&&decide (len<=rows.length) then
    bif decide (0<len) then some (.slice (rows.take len) .cx,M.set id (.arr z rows v (max fz len))) else some (.slice [] .cx,M)
   else none
  |_=>none
 |v=>some (v,M)
def Ar(x:V)(M:Mem):Option (V×Mem):=
 match g4 1 false x M with
 |some v=>oC v M
 |none=>none
def v8(c a b:V):Option V:=
 match c with
 |.bool t=>some (bif t then a else b)
 |_=>none
def nS(x:V):Option V:=bif aM2 x then some x else none
def u3(k:IntKind)(x:V):Option V:=
 match x with
 |.int _ n=>some (.int k (k.wrap n))
 |_=>none
def zh(x:V):Option V:=
 match x with
 |.str b=>some (.str b)
 |_=>none
def zd:List (List V)->Option (List UInt8)
 |[]=>some []
 |[.int .u8 n]::rs=>(zd rs).map (UInt8.ofNat n.toNat::·)
 |_=>none
def su(x:V)(M:Mem):Option V:=
 match eK 1 M x with
 |some rows=>(zd rows).map .str
 |none=>none
def yi(f:Nat)(c3:List V):V:=bif hC c3 then .dF f c3 else .fn f c3
def xd(off n:Nat)(bZ:Bool)(x:V):Option V:=
 match x with
 |.agg cells=>iM n bZ cells off
 |_=>none
def x5(x:V):Option V:=
 match x with
 |.str b=>some (.int .i64 b.length)
 |_=>none
def xa(x:V)(i:Nat):Option V:=
 match x with
 |.tuple vs=>vs[i]?
 |_=>none
def Bi(n:Nat)(x:V)(M:Mem):Option (V×Mem):=
 match x.cells? with
 |some cs=>bif cs.length==n then some (.ptr M.length 0,M++[.box cs]) else none
 |none=>none
def wS(zero:List V)(d3:List (Nat×Nat×V)):Option V:=
 match pb zero d3 with
 |some cs=>some (.agg cs)
 |none=>none
def wR(zero:List V)(sz len:Nat)(d3:List (Nat×Nat×V)):Option V:=
 match pb zero d3 with
 |some cs=>bif hC cs then some (.slice (sx sz len cs) .full) else none
 |none=>none
def wT(zero:List V)(len:Nat)(d3:List (Nat×Nat×V))(M:Mem):Option (V×Mem):=
 match pb zero d3 with
 |some cs=>some (.aZ M.length 0 0 len,M++[.vec cs 0])
 |none=>none
def m8(zero:List V)(sz bytes:Nat)(l c:V)(M:Mem):Option (V×Mem):=
 match l,c with
 |.int _ l,.int _ c=>
  bif decide (0<=l)&&decide (l<=c)&&decide (c*bytes<=2^48)&&decide (c<2^62) then some (.aZ M.length 0 0 l.toNat,M++[.arr sz (f_ l.toNat zero) 0 0]) else none
 |_,_=>none
def JV(zero:V)(bytes:Nat)(l c:V)(M:Mem):Option (V×Mem):=
 match l with
 |.int _ n=>
  match m8 [zero] 1 bytes l c M with
  |some (v,_)=>some (v,M++[.vec (f_ n.toNat zero) 0])
  |none=>none
 |_=>none
def yc(r:Option V)(M:Mem):Option (V×Mem):=
 match r with
 |none=>some (.map M.length,M++[.map []])
 |some (.int _ _)=>some (.map M.length,M++[.map []])
 |some _=>none
def J2(x:V)(M:Mem):Option V:=
 match x with
 |.aZ id ver 0 1=>
  match M[id]? with
  |some (.vec [h6] v)=>bif v==ver&&h6.iK then some h6 else none
  |_=>none
 |_=>none
def Fp(sz bytes:Nat)(a h6:V)(M:Mem):Option (V×Mem):=
 match a with
 |.aZ id ver 0 len=>
  match M[id]? with
  |some (.vec cells v)=>
   bif sz==1&&v==ver&&len==cells.length&&decide ((cells.length+1)*(2*bytes)<=2^48) then
    some (.aZ id (ver+1) 0 (len+1),M.set id (.vec (cells++[h6]) (ver+1)))
   else none
  |_=>none
 |_=>none
def dX(imm:Bool)(sz bytes:Nat)(a x:V)(M:Mem):Option (V×Mem):=
 match eK sz M x with
 |some xr=>g0 imm sz bytes a xr M
 |none=>
  match J2 x M with
  |some h6=>Fp sz bytes a h6 M
  |none=>none
def hU(o:dM)(s:aI)(M:Mem):Option V:=
 match o with
 |.nQ x=>some (aP s x)
 |.pick c a b=>v8 (aP s c) (aP s a) (aP s b)
 |.build zero d3=>wS zero (kk s d3)
 |.buildSlice zero sz len d3=>wR zero sz len (kk s d3)
 |.load n bZ a=>g4 n bZ (aP s a) M
 |.nilCheck x=>nS (aP s x)
 |.bin op kC x y=>dN op kC (aP s x) (aP s y)
 |.un op x=>wn op (aP s x)
 |.conv k x=>u3 k (aP s x)
 |.tv x=>zh (aP s x)
 |.rh x=>su (aP s x) M
 |.lO f c3=>some (yi f (e_ s c3))
 |.slice sz x lo hi mx=>hf sz (aP s x) (eM s lo) (eM s hi) (eM s mx) M
 |.uG x lo hi=>AP (aP s x) (eM s lo) (eM s hi)
 |.fieldAddr off x=>kL off (aP s x)
 |.field off n bZ x=>xd off n bZ (aP s x)
 |.gy len sz x i=>pC len sz (aP s x) (aP s i)
 |.mH sz x i=>iz sz (aP s x) (aP s i) M
 |.pD x i=>vU (aP s x) (aP s i)
 |.uf len sz bZ x i=>An len sz bZ (aP s x) (aP s i)
 |.sT x=>iA (aP s x) M
 |.nJ x=>x5 (aP s x)
 |.uj n=>some (.int .i64 n)
 |.nP mx x y=>sU mx (aP s x) (aP s y)
 |.extract x i=>xa (aP s x) i
 |.lookup c zero bZ ok m k=>oA c zero bZ ok (aP s m) (aP s k) M
 |_=>none
def AC(sz:Nat)(M:Mem):Option (V×Mem):=some (.aZ M.length 0 0 0,M++[match sz with|0=>.vec [] 0|n+1=>.arr (n+1) [] 0 0])
def Fj(zero:List V)(M:Mem):Option (V×Mem):=some (.ptr M.length 0,M++[.box zero])
def Kx(n:Nat)(a x:V)(M:Mem):Option (V×Mem):=
 match Kw n a x M with
 |some ah=>some (.undef,ah)
 |none=>none
def Av(c:fv)(m k x:V)(M:Mem):Option (V×Mem):=
 match N_ c m k x M with
 |some ah=>some (.undef,ah)
 |none=>none
def yr(neg:Bool)(x y:V)(M:Mem):Option (V×Mem):=
 match x,y with
 |.ptr i o,.ptr j p=>
  match M[i]?,M[j]? with
  |some (.box _),some (.box _)=>some (.bool ((decide (i=j)&&decide (o=p)) !=neg),M)
  |_,_=>none
 |_,_=>none
def EG(x:V)(M:Mem):Option (V×Mem):=
 match x with
 |.map id=>
  match M[id]? with
  |some (.map es)=>some (.ptr M.length 0,M++[.iter id es.length []])
  |_=>none
 |_=>none
def zm(x:V)(M:Mem):Option (V×Mem):=
 match x with
 |.ptr id 0=>
  match M[id]? with
  |some (.iter mid n seen)=>
   match M[mid]?,seen.getLast? with
   |some (.map es),some i=>bif ey es.length n then(es[i]?).map (fun cB=>(.tuple [cB.1,cB.2],M)) else none
   |_,_=>none
  |_=>none
 |_=>none
def Ej(x:V)(M:Mem):Option (V×Mem):=
 match x with
 |.map id=>
  match M[id]? with
  |some (.map es)=>some (.int .i64 es.length,M)
  |_=>none
 |_=>none
def m_(o:dM)(s:aI)(M:Mem):Option (V×Mem):=
 match o with
 |.pI sz=>AC sz M
 |.alloc zero=>Fj zero M
 |.box n x=>Bi n (aP s x) M
 |.store n a x=>Kx n (aP s a) (aP s x) M
 |.makeSlice zero sz bytes l c=>m8 zero sz bytes (aP s l) (aP s c) M
 |.rf zero len d3=>wT zero len (kk s d3) M
 |.v3 zero bytes l c=>JV zero bytes (aP s l) (aP s c) M
 |.append imm sz bytes a x=>dX imm sz bytes (aP s a) (aP s x) M
 |.makeMap r=>yc (eM s r) M
 |.mapUpdate c m k x=>Av c (aP s m) (aP s k) (aP s x) M
 |.mapEntry c z m k=>ul c z (aP s m) (aP s k) M
 |.entryStore m st x=>w2 (aP s m) (aP s st) (aP s x) M
 |.copy sz d x=>u4 sz (aP s d) (aP s x) M
 |.um x=>Ar (aP s x) M
 |.rV x=>oC (aP s x) M
 |.uF sz x h m=>yz sz (aP s x) (aP s h) (aP s m) M
 |.oG neg x y=>yr neg (aP s x) (aP s y) M
 |.ux x=>EG (aP s x) M
 |.tx x=>zm (aP s x) M
 |.uk x=>Ej (aP s x) M
 |_=>none
def dM.ht:dM->Bool
 |.pI _|.alloc _|.box _ _|.store _ _ _|.makeSlice _ _ _ _ _|.v3 _ _ _ _|.rf _ _ _|.append _ _ _ _ _|.makeMap _|.mapUpdate _ _ _ _|.mapEntry _ _ _ _|.entryStore _ _ _|.copy _ _ _|.uF _ _ _ _|.um _|.rV _|.oG _ _ _|.ux _|.rW _|.tx _|.uk _=>true
 |_=>false
end Go.aL
namespace Go.aL
def vd(P:Program)(f:Nat):Bool:=
 match P.funcs[f]? with
 |some fn=>fn.body.isSome&&fn.name != "runtime.NumGoroutine"
 |none=>false
def b9(P:Program)(f:Nat)(args:List V)(M:Mem)(R:V->Mem->Prop):Prop:=
 vd P f=true/\∀(w:World)(Γ:Env)(jT:Array Value),Good w Γ M->ek w Γ args jT->
  Calls P f jT w (fun e w'=>∃v bn Γ' ah,e=.returned bn/\R v ah/\bq w' Γ' v bn/\Good w' Γ' ah/\Ext w Γ w' Γ')
theorem b9.mono{P:Program}{f:Nat}{args:List V}{M:Mem}{R l1:V->Mem->Prop}(h:b9 P f args M R)(an:∀v ah,R v ah->l1 v ah):b9 P f args M l1:=
 ⟨h.1,fun w Γ jT aB a9=>(h.2 w Γ jT aB a9).mono fun _ _ ⟨v,bn,Γ',ah,aa,af,az⟩=>⟨v,bn,Γ',ah,aa,an v ah af,az⟩⟩
def bT(P:Program)(f:Nat)(args:List V)(R:V->Prop):Prop:=
 b9 P f args [] (fun v ah=>R v/\ah=[]/\v.under 0=true)
theorem bT.mono{P:Program}{f:Nat}{args:List V}{R l1:V->Prop}(h:bT P f args R)(an:∀v,R v->l1 v):bT P f args l1:=
 b9.mono h fun _ _ ⟨a,b,c⟩=>⟨an _ a,b,c⟩
def V.JM:V->Bool
 |.bool _|.int _ _|.str _|.dE|.gz|.jJ=>true
 |_=>false
def oQ(P:Program)(q:Bool)(f:Nat)(args:List V)(M:Mem)(K:V->Mem->Prop):Prop:=
 match q with
 |false=>b9 P f args M K
 |true=>∃v,b9 P f args M (fun x ah=>x=v/\ah=M)/\K v M
def kZ(o:Option V)(K:V->Prop):Prop:=
 match o with
 |some v=>K v
 |none=>False
def tn(o:Option V)(K:Bool->Prop):Prop:=
 match o with
 |some (.bool b)=>K b
 |_=>False
def tp(o:Option (V×Mem))(K:V->Mem->Prop):Prop:=
 match o with
 |some (v,M)=>K v M
 |none=>False
def kc(b:Bool)(A B:Prop):Prop:=
 match b with
 |true=>A
 |false=>B
def mP(P:Program)(q:Bool)(f:V)(args:List V)(M:Mem)(K:V->Mem->Prop):Prop:=
 match f with
 |.dF f c3=>oQ P q f (args++c3) M K
 |.fn f c3=>oQ P q f (args++c3) M K
 |_=>False
def kN(s:aI)(dst:Option Nat)(bz:Bool)(v:V)(K:aI->Prop):Prop:=
 match bz with
 |true=>tn (some v) (fun b=>K (bA s dst (.bool b)))
 |false=>K (bA s dst v)
def sf(x:V)(M:Mem)(K:V->Mem->Prop):Prop:=
 match x with
 |.ptr id 0=>
  match M[id]? with
  |some (.iter mid n seen)=>
   match M[mid]? with
   |some (.map es)=>es.length=n/\((∀i,i<n->i∈seen)->K (.tuple [.bool false]) M)/\
     ∀i cB,es[i]? =some cB->i∉seen->K (.tuple [.bool true,cB.1,cB.2]) (M.set id (.iter mid n (seen++[i])))
   |_=>False
  |_=>False
 |_=>False
def xj(x y:V):Bool:=
 match x,y with
 |.c7 _,.c7 _=>true
 |_,_=>false
def th(neg:Bool)(x y:V)(M:Mem)(K:V->Mem->Prop):Prop:=
 match xj x y with
 |true=>K (.bool true) M/\K (.bool false) M
 |false=>tp (yr neg x y M) K
def wpOp(P:Program)(q:Bool)(o:dM)(dst:Option Nat)(bz:Bool)(s:aI)(M:Mem)(K:aI->Mem->Prop):Prop:=
 match o with
 |.call f args=>oQ P q f (e_ s args) M (fun v ah=>kN s dst bz v (fun aO=>K aO ah))
 |.fX jB args=>mP P q (aP s jB) (e_ s args) M (fun v ah=>kN s dst bz v (fun aO=>K aO ah))
 |.rW x=>sf (aP s x) M (fun v ah=>K (bA s dst v) ah)
 |.oG neg x y=>th neg (aP s x) (aP s y) M (fun v ah=>K (bA s dst v) ah)
 |op=>
  match op.ht with
  |true=>tp (m_ op s M) (fun v ah=>K (bA s dst v) ah)
  |false=>
   match bz with
   |true=>tn (hU op s M) (fun b=>K (bA s dst (.bool b)) M)
   |false=>kZ (hU op s M) (fun v=>K (bA s dst v) M)
def wpOps(P:Program)(q:Bool):List bw->aI->Mem->(aI->Mem->Prop)->Prop
 |[],s,M,k=>k s M
 |⟨dst,op,bz,none⟩::os,s,M,k=>wpOp P q op dst bz s M (fun aO ah=>wpOps P q os aO ah k)
 |⟨dst,op,bz,some (g,gW)⟩::os,s,M,k=>
  match aX s g with
  |.bool b=>
   match gW with
   |true=>kc b (wpOp P q op dst bz (eP s g (.bool true)) M (fun aO ah=>wpOps P q os aO ah k)) (wpOps P q os (bA (eP s g (.bool false)) dst (.tuple [])) M k)
   |false=>kc b (wpOps P q os (bA (eP s g (.bool true)) dst (.tuple [])) M k) (wpOp P q op dst bz (eP s g (.bool false)) M (fun aO ah=>wpOps P q os aO ah k))
  |.tuple []=>wpOps P q os (bA s dst (.tuple [])) M k
  |_=>False
theorem aQL{neg:Bool}{x y:V}{M:Mem}{K A6:V->Mem->Prop}(h:th neg x y M K)(ao:∀v M,K v M->A6 v M):th neg x y M A6:=by
 unfold th at h⊢;cases aD:xj x y with
 |true=>rw[aD] at h;exact⟨ao _ _ h.1,ao _ _ h.2⟩
 |false=>
  rw[aD] at h;simp only at h⊢;cases aA:yr neg x y M with
  |none=>rw[aA] at h;exact h.elim
  |some p=>
   obtain⟨v,ah⟩:=p;rw[aA] at h;exact ao _ _ h
theorem aQJ{x:V}{M:Mem}{K A6:V->Mem->Prop}(h:sf x M K)(ao:∀v M,K v M->A6 v M):sf x M A6:=by
 cases x with
 |ptr id off=>
  cases off with
  |succ _=>exact h.elim
  |zero=>
  simp only[sf] at h⊢;cases a7:M[id]? with
  |none=>simp only[a7] at h
  |some B=>
   cases B with
   |iter mid n seen=>
    simp only[a7] at h⊢;cases hm:M[mid]? with
    |none=>simp only[hm] at h
    |some mT=>
     cases mT with
     |map es=>
      simp only[hm] at h⊢;exact⟨h.1,fun a=>ao _ _ (h.2.1 a),fun i cB a b=>ao _ _ (h.2.2 i cB a b)⟩
     |_=>simp only[hm] at h
   |_=>simp only[a7] at h
 |_=>exact h.elim
def hz(P:Program)(q:Bool)(o:bw)(s:aI)(M:Mem)(K:aI->Mem->Prop):Prop:=
 match o with
 |⟨dst,op,bz,none⟩=>wpOp P q op dst bz s M K
 |⟨dst,op,bz,some (g,gW)⟩=>
  match aX s g with
  |.bool b=>
   match gW with
   |true=>kc b (wpOp P q op dst bz (eP s g (.bool true)) M K) (K (bA (eP s g (.bool false)) dst (.tuple [])) M)
   |false=>kc b (K (bA (eP s g (.bool true)) dst (.tuple [])) M) (wpOp P q op dst bz (eP s g (.bool false)) M K)
  |.tuple []=>K (bA s dst (.tuple [])) M
  |_=>False
def uK(P:Program):List bw->List Bool->aI->Mem->(aI->Mem->Prop)->Prop
 |o::os,q::dR,s,M,k=>hz P q o s M (fun aO ah=>uK P os dR aO ah k)
 |_,_,s,M,k=>k s M
def nL:List (Nat×(Mem->Prop))->Nat->Mem->Prop
 |[],_,_=>False
 |(i,p)::H,j,M=>
  match ey i j with
  |true=>p M
  |false=>nL H j M
def kP(H:List (Nat×(Mem->Prop))):List Nat->Mem->Prop
 |[],_=>True
 |j::Ao,M=>nL H j M/\kP H Ao M
def p8(s:aI):Option Nat->V
 |some d=>aX s d
 |none=>.undef
def PD(P:Program)(f:Nat)(args:List V)(bz:Bool)(v:V)(cE:Mem):Prop:=b9 P f args cE (fun x ah=>x=v/\ah=cE)/\(bz=true->∃b,v=.bool b)
def go(P:Program)(o:bw)(s:aI)(v:V)(cE:Mem):Prop:=
 match o.op with
 |.call f args=>PD P f (e_ s args) o.bz v cE
 |op=>hU op s cE=some v
def mm(P:Program):List bw->List (Option (List Nat))->Nat->List (Nat×(Mem->Prop))->aI->Mem->(aI->Mem->Prop)->Prop
 |o::os,none::bR,n,H,s,M,k=>hz P true o s M (fun aO ah=>mm P os bR (n+1) ((n,go P o s (p8 aO o.dst))::H) aO ah k)
 |o::os,some l::bR,n,H,s,M,k=>hz P false o s M (fun aO ah=>kP H l ah/\mm P os bR (n+1) H aO ah k)
 |_,_,_,_,s,M,k=>k s M
def KT(P:Program)(f:Nat)(args:List V)(M:Mem)(n:Nat)(B:a1)(k:V->Mem->Prop):Prop:=
 ∃v ah,ah[n]? =some .dead/\b9 P f args M (fun x N=>x=v/\N=ah)/\b9 P f args (M.set n B) (fun x N=>x=v/\N=ah.set n B)/\k v ah
def n0(P:Program)(z:List V)(n c:Nat):List bw->List (Option (List Nat))->Nat->List (Nat×(Mem->Prop))->aI->Mem->(aI->Mem->Prop)->Prop
 |o::os,none::bR,q,H,s,M,k=>hz P true o s M (fun aO ah=>n0 P z n c os bR (q+1) ((q,go P o s (p8 aO o.dst))::H) aO ah k)
 |o::os,some l::bR,q,H,s,M,k=>
  match ey q c with
  |true=>kP H l (M.set n (.box z))/\mm P os bR (q+1) H (bA s o.dst (.ptr n 0)) (M.set n (.box z)) k
  |false=>
   match o.op with
   |.call f args=>KT P f (e_ s args) M n (.box z) (fun v ah=>kN s o.dst o.bz v (fun aO=>kP H l ah/\n0 P z n c os bR (q+1) H aO ah k))
   |_=>False
 |_,_,_,_,_,_,_=>False
def hT(n:Nat)(vs:List V)(M:Mem):Bool:=decide (n<=M.length)&&cT n vs&&cq n (M.take n)
def yw(next:(Exit->aI->Mem->Prop)->aI->Mem->Prop)(Q:Exit->aI->Mem->Prop):Exit->aI->Mem->Prop
 |.normal,s,M=>next Q s M
 |e,s,M=>Q e s M
def p5(id:Nat)(Q:Exit->aI->Mem->Prop):Exit->aI->Mem->Prop
 |.exit nF,s,M=>bif nF==id then Q .normal s M else Q (.exit nF) s M
 |e,s,M=>Q e s M
def nU(dA:Nat->List V->Mem->Prop)(n len:Nat)(live:List Nat)(Q:Exit->aI->Mem->Prop):Exit->aI->Mem->Prop
 |.normal,s,M=>(∃m,m<n/\dA m (dr s live) M)∨(hT len (dr s live) M=true/\∃m,m<n/\dA m (dr s live) (M.take len))
 |e,s,M=>Q e s M
def ug(b6:List V->Mem->Prop)(l:Nat)(live:List Nat)(Q:Exit->aI->Mem->Prop):Exit->aI->Mem->Prop
 |.goto l',s,M=>l'=l/\b6 (dr s live) M
 |e,s,M=>Q e s M
def dn(P:Program):a6->(Exit->aI->Mem->Prop)->aI->Mem->Prop
 |.skip,Q,s,M=>Q .normal s M
 |.label,Q,s,M=>Q .normal s M
 |.region aF live,Q,s,M=>wpOps P false aF s M (fun aO ah=>Q .normal (g7 aO live) ah)
 |.mixed aF dR live,Q,s,M=>uK P aF dR s M (fun aO ah=>Q .normal (g7 aO live) ah)
 |.float aF bL live,Q,s,M=>mm P aF bL 0 [] s M (fun aO ah=>Q .normal (g7 aO live) ah)
 |.sE c z aF bL live,Q,s,M=>n0 P z M.length c aF bL 0 [] s (M++[.dead]) (fun aO ah=>Q .normal (g7 aO live) ah)
 |.seq a b,Q,s,M=>dn P a (yw (dn P b) Q) s M
 |.cond c a b,Q,s,M=>
  match aP s c with
  |.bool t=>kc t (dn P a Q s M) (dn P b Q s M)
  |_=>False
 |.block id a,Q,s,M=>dn P a (p5 id Q) s M
 |.loop live a,Q,s,M=>
  ∃(dA:Nat->List V->Mem->Prop)(n:Nat),dA n (dr s live) M/\
   ∀n vs cE,dA n vs cE->dn P a (nU dA n M.length live Q) (ln live vs) cE
 |.scope l live a dB,Q,s,M=>
  ∃(b6:Nat->List V->Mem->Prop),
   dn P a (ug (fun vs M=>∃n,b6 n vs M) l live Q) s M/\
   ∀n vs cE,b6 n vs cE->dn P dB (ug (fun vs M=>∃m,m<n/\b6 m vs M) l live Q) (ln live vs) cE
 |.exit id,Q,s,M=>Q (.exit id) s M
 |.goto l,Q,s,M=>Q (.goto l) s M
 |.ret,Q,s,M=>Q .ret s M
def EJ(s:aI)(M:Mem):mn->Option V
 |.tmp t=>some (aX s t)
 |.cell t n bZ=>g4 n bZ (aX s t) M
def yu(s:aI)(M:Mem):List mn->Option (List V)
 |[]=>some []
 |r::rs=>
  match EJ s M r,yu s M rs with
  |some v,some vs=>some (v::vs)
  |_,_=>none
def pN(s:aI)(M:Mem)(rs:List mn):Option V:=
 match yu s M rs with
 |some [v]=>some v
 |some vs=>some (.tuple vs)
 |none=>none
def o8(rs:List mn)(R:Option V->Mem->Prop):Exit->aI->Mem->Prop
 |.normal,s,M=>R (pN s M rs) M
 |.ret,s,M=>R (pN s M rs) M
 |_,_,_=>False
def qz(R:V->Mem->Prop)(v:Option V)(M:Mem):Prop:=
 match v with
 |some v=>R v M
 |none=>False
def hg(P:Program)(fn:bs)(args:List V)(M:Mem)(R:V->Mem->Prop):Prop:=
 dn P fn.body (o8 fn.results (qz R)) (r8 args 0) M
def jI(f:V->Option V):List V->Option (List V)
 |[]=>some []
 |x::xs=>
  match f x,jI f xs with
  |some y,some bH=>some (y::bH)
  |_,_=>none
def eY(M:Mem)(base:Nat):Nat->V->Option V
 |0,v=>bif v.under base then some v else none
 |n+1,v=>
  match v with
  |.ptr id off=>
   bif decide (id<base) then some (.ptr id off) else
   match M[id]? with
   |some (.box cells)=>
    match jI (eY M base n) (cells.drop off) with
    |some cs=>bif hC cs&&decide (off<=cells.length) then some (match off,cs with|0,_::_=>.c7 cs|_,_=>.gA cs) else none
    |none=>none
   |_=>none
  |.aZ id ver start len=>
   bif decide (id<base) then some (.aZ id ver start len) else
   match M[id]? with
   |some (.arr _ rows v _)=>bif v==ver&&decide (start+len<=rows.length) then some (.slice ((rows.drop start).take len) .cx) else none
   |some (.vec cells v)=>
    bif v==ver&&decide (start+len<=cells.length) then
     match jI (eY M base n) ((cells.drop start).take len) with
     |some cs=>bif hC cs then some (.slice (cs.map fun x=>[x]) .cx) else none
     |none=>none
    else none
   |_=>none
  |.fn f c3=>
   match jI (eY M base n) c3 with
   |some cs=>some (bif hC cs then .dF f cs else .fn f cs)
   |none=>none
  |.agg cells=>(jI (eY M base n) cells).map .agg
  |.tuple vs=>(jI (eY M base n) vs).map .tuple
  |v=>bif v.under base then some v else none
def Kg(base:Nat)(R:V->Mem->Prop)(v:Option V)(ah:Mem):Prop:=
 match v with
 |some v=>kZ (eY ah base 20 v) fun dT=>(dT.under base&&decide (base<=ah.length)&&cq base (ah.take base))=true/\R dT (ah.take base)
 |none=>False
def Yn(P:Program)(fn:bs)(args:List V)(M:Mem)(R:V->Mem->Prop):Prop:=
 dn P fn.body (o8 fn.results (Kg M.length R)) (r8 args 0) M
end Go.aL
namespace Go.aL
def FB:Value->Option V
 |.bool b=>some (.bool b)
 |.int k n=>some (.int k n)
 |.string s=>some (.str s.data.toList)
 |.pointer none=>some .dE
 |.slice none 0 0=>some (.slice [] .nil)
 |.map none=>some .jJ
 |.nilFunc=>some .gz
 |_=>none
def wY:List Value->Option (List V)
 |[]=>some []
 |v::vs=>
  match FB v,wY vs with
  |some x,some xs=>some (x::xs)
  |_,_=>none
def LN:Value->Option V
 |.agg cs=>(wY cs.toList).map .agg
 |v=>FB v
def b4:Operand->Option aU
 |.tmp t=>some (.tmp t)
 |.const v=>(LN v).map .const
 |.func f=>some (.const (.dF f []))
 |.global _=>none
def sX:List Operand->Option (List aU)
 |[]=>some []
 |x::xs=>
  match b4 x,sX xs with
  |some y,some bH=>some (y::bH)
  |_,_=>none
def hS:Option Operand->Option (Option aU)
 |none=>some none
 |some x=>(b4 x).map some
def kg(P:Program)(t:TypeId):Option Bool:=
 match P.underlying t with
 |some (.struct _)=>some true
 |some (.array _ _)=>some true
 |some _=>some false
 |none=>none
def e7(P:Program)(t:TypeId):Option Nat:=
 match P.info? t with
 |some i=>some i.size
 |none=>none
def kT(P:Program)(t:TypeId):Option (List V):=
 match P.info? t with
 |some i=>
  match i.zero with
  |some v=>wY v.cells.toList
  |none=>none
 |none=>none
def As(P:Program)(t:TypeId):Bool:=
 match P.info? t with
 |some i=>
  match i.zero with
  |some (.agg _)=>false
  |some _=>true
  |none=>false
 |none=>false
def mh(P:Program)(t:TypeId):Option fE:=
 match P.underlying t with
 |some .bool=>some .bool
 |some (.int _)=>some .int
 |some .string=>some .str
 |_=>none
def s9(P:Program):Nat->List Field->Option (List fE)
 |_,[]=>some []
 |n,f::bR=>
  match mh P f.type,kg P f.type,s9 P (n+1) bR with
  |some k,some false,some cA=>if f.name != "_"&&f.offset==n then some (k::cA) else none
  |_,_,_=>none
def vZ(P:Program):Nat->List Field->Option (List fE)
 |_,[]=>some []
 |n,f::bR=>
  if f.name != "_"&&f.offset==n then
   match mh P f.type with
   |some k=>
    match kg P f.type,vZ P (n+1) bR with
    |some false,some cA=>some (k::cA)
    |_,_=>none
   |none=>
    match P.underlying f.type,e7 P f.type,kg P f.type with
    |some (.struct gs),some m,some true=>
     match s9 P 0 gs.toList,vZ P (n+m) bR with
     |some cA,some oz=>if cA.length==m&&decide (0<m)&&!P.stoodInHeld f.type then some (cA++oz) else none
     |_,_=>none
    |_,_,_=>none
  else none
def nH(P:Program)(t:TypeId):Option fv:=
 match mh P t with
 |some .bool=>some .bool
 |some .int=>some .int
 |some .str=>some .str
 |none=>
  match P.underlying t with
  |some (.struct bR)=>
   match vZ P 0 bR.toList with
   |some cA=>if !P.stoodInHeld t then some (.cells cA) else none
   |none=>none
  |some (.array n e)=>
   match mh P e,kg P e with
   |some k,some false=>if e7 P e==some 1 then some (.cells (f_ n k)) else none
   |_,_=>none
  |_=>none
def zn(P:Program)(t:TypeId):iU:=
 match P.underlying t with
 |some .bool=>.bool
 |some (.pointer _)=>.ptr
 |some (.slice _)=>.slice
 |some (.map _ _)=>.map
 |some (.func _ _ _)=>.fn
 |some (.struct bR)=>
  match s9 P 0 bR.toList with
  |some cA=>if !P.stoodInHeld t&&!P.eqGuardType P.depth t then .cells cA else .none
  |none=>.none
 |some (.array n e)=>
  match mh P e,kg P e with
  |some k,some false=>if e7 P e==some 1&&!P.eqGuardType P.depth t then .cells (f_ n k) else .none
  |_,_=>.none
 |_=>.none
def AJ(P:Program)(t:TypeId):Bool:=
 match P.underlying t with
 |some (.pointer e)=>match e7 P e with|some n=>decide (0<n)|none=>false
 |_=>false
def AG(P:Program)(bR:Array Field):List (Nat×Operand)->Option (List (Nat×Nat×aU))
 |[]=>some []
 |(i,x)::dB=>
  match bR[i]?,b4 x,AG P bR dB with
  |some f,some y,some r=>
   match e7 P f.type with
   |some n=>some ((f.offset,n,y)::r)
   |none=>none
  |_,_,_=>none
def s2(n:Nat):List (Nat×Operand)->Option (List (Nat×Nat×aU))
 |[]=>some []
 |(i,x)::dB=>
  match b4 x,s2 n dB with
  |some y,some r=>some ((i*n,n,y)::r)
  |_,_=>none
def r0:Nat->List V->List V
 |0,_=>[]
 |n+1,z=>z++r0 n z
def q_{α β EZ:Type}(x:Option α)(y:Option β)(f:α->β->EZ):Option EZ:=
 match x,y with
 |some a,some b=>some (f a b)
 |_,_=>none
def NQ:Operand->Bool
 |.const (.slice none 0 0)=>true
 |_=>false
def aK2:Operand->Bool
 |.const _=>true
 |_=>false
def PB(P:Program)(e:TypeId)(n:Nat):Bool:=
 match kT P e with
 |some z=>z.length==n
 |none=>false
def wb(P:Program)(b:Builtin)(args:List Operand)(iP:List TypeId)(mu:Bool):Option dM:=
 match b,args,iP with
 |.len,[x],[t]=>
  match P.underlying t with
  |some .string=>(b4 x).map .nJ
  |some (.slice _)=>(b4 x).map .sT
  |some (.map _ _)=>(b4 x).map .uk
  |some (.array n _)=>some (.uj n)
  |some (.pointer a)=>
   match P.underlying a with
   |some (.array n _)=>some (.uj n)
   |_=>none
  |_=>none
 |.append,[s,x],[t,ab]=>
  match P.underlying t,P.underlying ab with
  |some (.slice e),some (.slice _)=>
   match P.info? e,(b4 s),(b4 x) with
   |some i,some aO,some dh=>if decide (0<i.bytes)&&PB P e i.size then some (.append (aK2 s !=mu) i.size i.bytes aO dh) else none
   |_,_,_=>none
  |_,_=>none
 |.copy,[d,x],[t,ab]=>
  match P.underlying t,P.underlying ab with
  |some (.slice e),some (.slice _)=>
   match e7 P e,b4 d,b4 x with
   |some n,some hF,some dh=>if 0<n then some (.copy n hF dh) else none
   |_,_,_=>none
  |_,_=>none
 |.max,[x,y],_=>q_ (b4 x) (b4 y) (.nP true)
 |.min,[x,y],_=>q_ (b4 x) (b4 y) (.nP false)
 |_,_,_=>none
def aD6(P:Program)(t:TypeId):Option Nat:=
 match P.underlying t with
 |some (.slice e)=>e7 P e
 |_=>none
def gU(P:Program)(mu ld:Bool)(nh:TypeId):Op->Option dM
 |.move x=>match mu with|false=>(b4 x).map .nQ|true=>(b4 x).map .rV
 |.assign x=>if mu then(if NQ x then(if ld then some (.pI 0) else(aD6 P nh).map .pI) else(b4 x).map .rV) else(b4 x).map .nQ
 |.pick c a b=>
  match b4 c,b4 a,b4 b with
  |some c,some a,some b=>some (.pick c a b)
  |_,_,_=>none
 |.alloc e=>(kT P e).map .alloc
 |.box e x=>q_ (e7 P e) (b4 x) .box
 |.build t d3=>
  match P.underlying t,kT P t with
  |some (.struct bR),some z=>if bR.toList.all (fun f=>(e7 P f.type).isSome) then(AG P bR d3.toList).map (.build z) else none
  |some (.array _ e),some z=>
   match e7 P e with
   |some n=>(s2 n d3.toList).map (.build z)
   |none=>none
  |_,_=>none
 |.buildSlice t len d3=>
  match P.underlying t with
  |some (.slice e)=>
   match e7 P e,kT P e with
   |some n,some z=>
    if z.length==n&&0<n&&len*n<=2^20 then
     match ld with
     |false=>(s2 n d3.toList).map (.buildSlice (r0 len z) n len)
     |true=>if n==1 then(s2 n d3.toList).map (.rf (r0 len z) len) else none
    else none
   |_,_=>none
  |_=>none
 |.load t a=>
  match e7 P t,kg P t,b4 a with
  |some n,some bZ,some a=>
   match mu with
   |false=>some (.load n bZ a)
   |true=>if n==1&&!bZ then some (.um a) else none
  |_,_,_=>none
 |.store t a x=>
  match e7 P t,b4 a,b4 x with
  |some n,some a,some x=>some (.store n a x)
  |_,_,_=>none
 |.nilCheck x=>(b4 x).map .nilCheck
 |.binOp op t x y _=>
  match mu&&AJ P t,op with
  |true,.eql=>q_ (b4 x) (b4 y) (.oG false)
  |true,.neq=>q_ (b4 x) (b4 y) (.oG true)
  |_,_=>q_ (b4 x) (b4 y) (.bin op (zn P t))
 |.unOp op _ x=>(b4 x).map (.un op)
 |.convert src dst x=>
  match P.underlying src,P.underlying dst,b4 x with
  |some (.int _),some (.int k),some x=>some (.conv k x)
  |some .string,some .string,some x=>some (.tv x)
  |some (.slice e),some .string,some x=>
   match P.underlying e with
   |some (.int .u8)=>some (.rh x)
   |_=>none
  |_,_,_=>none
 |.makeFunc (.func f) first c3=>if first.isEmpty then(sX c3.toList).map (.lO f) else none
 |.makeMap t r=>
  match P.underlying t with
  |some (.map _ _)=>(hS r).map .makeMap
  |_=>none
 |.lookup t m k ok=>
  match P.underlying t,b4 m,b4 k with
  |some (.map kt e),some m,some k=>
   match kT P e,nH P kt with
   |some [z],some c=>bif As P e then some (.lookup c [z] false ok m k) else none
   |_,_=>none
  |_,_,_=>none
 |.mapUpdate t m k x=>
  match P.underlying t,b4 m,b4 k,b4 x with
  |some (.map kt _),some m,some k,some x=>(nH P kt).map (fun c=>.mapUpdate c m k x)
  |_,_,_,_=>none
 |.mapEntry t m k=>
  match P.underlying t,b4 m,b4 k with
  |some (.map kt e),some m,some k=>
   match kT P e,nH P kt with
   |some [z],some c=>bif As P e&&z.iK then some (.mapEntry c z m k) else none
   |_,_=>none
  |_,_,_=>none
 |.entryStore t m st x=>
  match b4 m,b4 st,b4 x with
  |some m,some st,some x=>some (.entryStore m st x)
  |_,_,_=>none
 |.makeSlice t l c=>
  match P.underlying t with
  |some (.slice e)=>
   match P.info? e,kT P e,b4 l,b4 c with
   |some i,some z,some l,some c=>
    if z.length==i.size&&hC z&&0<i.size then
     match ld,z with
     |false,z=>some (.makeSlice z i.size i.bytes l c)
     |true,[z]=>some (.v3 z i.bytes l c)
     |true,_=>none
    else none
   |_,_,_,_=>none
  |_=>none
 |.slice t x lo hi mx=>
  match P.underlying t,b4 x,hS lo,hS hi,hS mx with
  |some .string,some x,some lo,some hi,some none=>some (.uG x lo hi)
  |some (.slice e),some x,some lo,some hi',some mx'=>
   match mu,lo,hi',mx' with
   |true,none,some h,some m=>(e7 P e).map (fun n=>.uF n x h m)
   |true,_,_,_=>none
   |false,_,_,_=>if mx.isNone||hi.isSome then(e7 P e).map (fun n=>.slice n x lo hi' mx') else none
  |_,_,_,_,_=>none
 |.range t x=>
  match P.underlying t with
  |some (.map _ _)=>(b4 x).map .ux
  |_=>none
 |.next x false=>(b4 x).map .rW
 |.entry x=>(b4 x).map .tx
 |.fieldAddr t x f=>
  match P.underlying t,b4 x with
  |some (.struct bR),some x=>
   match bR[f]? with
   |some g=>
    match e7 P g.type with
    |some n=>if n=0 then none else some (.fieldAddr g.offset x)
    |none=>none
   |none=>none
  |_,_=>none
 |.field t x f=>
  match P.underlying t,b4 x with
  |some (.struct bR),some x=>
   match bR[f]? with
   |some g=>
    match e7 P g.type,kg P g.type with
    |some n,some bZ=>some (.field g.offset n bZ x)
    |_,_=>none
   |none=>none
  |_,_=>none
 |.indexAddr t x i=>
  match P.underlying t,b4 x,b4 i with
  |some (.array n e),some x,some i=>(e7 P e).map (fun m=>.gy n m x i)
  |some (.slice e),some x,some i=>(e7 P e).map (fun m=>.mH m x i)
  |_,_,_=>none
 |.index t x i=>
  match P.underlying t,b4 x,b4 i with
  |some .string,some x,some i=>some (.pD x i)
  |some (.array n e),some x,some i=>
   match e7 P e,kg P e with
   |some m,some bZ=>some (.uf n m bZ x i)
   |_,_=>none
  |_,_,_=>none
 |.extract x i=>(b4 x).map (.extract · i)
 |.call c=>
  match c.callee with
  |.builtin b=>wb P b c.args.toList c.argTypes.toList mu
  |.value (.func f)=>(sX c.args.toList).map (.call f)
  |.value f=>q_ (b4 f) (sX c.args.toList) .fX
  |.invoke _ _=>none
 |_=>none
def Bq(n:Nat)(aF:Array Oper)(j:Nat):Option Nat:=
 match aF[j]? with
 |some o=>
  match o.dst with
  |some d=>if d<n then some d else none
  |none=>none
 |none=>none
def yt(n:Nat)(aF:Array Oper):Option (Nat×Bool)->Option (Option (Nat×Bool))
 |none=>some none
 |some (j,gW)=>(Bq n aF j).map fun d=>some (d,gW)
def Ec(P:Program)(t:TypeId):Bool:=
 match P.underlying t with
 |some .bool=>true
 |_=>false
def s6(P:Program)(n:Nat)(oD:List Nat)(aF:Array Oper)(i:Nat)(o:Oper):Option bw:=
 match gU P (oD.contains i) (oD.contains (i+5000)) o.type o.op,yt n aF o.guard with
 |some a,some g=>
  match o.dst with
  |none=>some ⟨none,a,Ec P o.type,g⟩
  |some d=>if d<n then some ⟨some d,a,Ec P o.type,g⟩ else none
 |_,_=>none
def pP(P:Program)(n:Nat)(oD:List Nat)(aF:Array Oper):Nat->List Oper->Option (List bw)
 |_,[]=>some []
 |i,o::os=>
  match s6 P n oD aF i o,pP P n oD aF (i+1) os with
  |some a,some bg=>some (a::bg)
  |_,_=>none
def dM.aNH:dM->Bool
 |.buildSlice _ _ _ _=>false
 |op=>!op.ht
def aU.cQ:aU->List Nat
 |.tmp t=>[t]
 |.const _=>[]
def x_:Option aU->List Nat
 |some x=>x.cQ
 |none=>[]
def x9:List aU->List Nat
 |[]=>[]
 |x::xs=>x.cQ++x9 xs
def ya:List (Nat×Nat×aU)->List Nat
 |[]=>[]
 |(_,_,x)::xs=>x.cQ++ya xs
def dM.cQ:dM->List Nat
 |.nQ x=>x.cQ
 |.pI _=>[]
 |.pick c a b=>c.cQ++(a.cQ++b.cQ)
 |.alloc _=>[]
 |.box _ x=>x.cQ
 |.build _ cX=>ya cX
 |.buildSlice _ _ _ cX=>ya cX
 |.rf _ _ cX=>ya cX
 |.load _ _ a=>a.cQ
 |.store _ a x=>a.cQ++x.cQ
 |.nilCheck x=>x.cQ
 |.bin _ _ x y=>x.cQ++y.cQ
 |.un _ x=>x.cQ
 |.conv _ x=>x.cQ
 |.tv x=>x.cQ
 |.rh x=>x.cQ
 |.lO _ c3=>x9 c3
 |.makeSlice _ _ _ l c=>l.cQ++c.cQ
 |.v3 _ _ l c=>l.cQ++c.cQ
 |.slice _ x lo hi mx=>x.cQ++(x_ lo++(x_ hi++x_ mx))
 |.uG x lo hi=>x.cQ++(x_ lo++x_ hi)
 |.fieldAddr _ x=>x.cQ
 |.field _ _ _ x=>x.cQ
 |.gy _ _ x i=>x.cQ++i.cQ
 |.mH _ x i=>x.cQ++i.cQ
 |.pD x i=>x.cQ++i.cQ
 |.uf _ _ _ x i=>x.cQ++i.cQ
 |.sT x=>x.cQ
 |.nJ x=>x.cQ
 |.uj _=>[]
 |.append _ _ _ s x=>s.cQ++x.cQ
 |.nP _ x y=>x.cQ++y.cQ
 |.extract x _=>x.cQ
 |.makeMap r=>x_ r
 |.lookup _ _ _ _ m k=>m.cQ++k.cQ
 |.mapUpdate _ m k x=>m.cQ++(k.cQ++x.cQ)
 |.mapEntry _ _ m k=>m.cQ++k.cQ
 |.entryStore m st x=>m.cQ++(st.cQ++x.cQ)
 |.copy _ d x=>d.cQ++x.cQ
 |.uF _ x h m=>x.cQ++(h.cQ++m.cQ)
 |.um x=>x.cQ
 |.rV x=>x.cQ
 |.call _ args=>x9 args
 |.fX f args=>f.cQ++x9 args
 |.oG _ x y=>x.cQ++y.cQ
 |.ux x=>x.cQ
 |.rW x=>x.cQ
 |.tx x=>x.cQ
 |.uk x=>x.cQ
def bw.cQ(o:bw):List Nat:=
 match o.guard with
 |some (g,_)=>g::o.op.cQ
 |none=>o.op.cQ
def dM.jH:dM->Bool
 |.call _ _|.fX _ _=>true
 |_=>false
def nG(l:List Nat)(t:Nat):Bool:=l.any fun u=>ey u t
def bw.sq(x y:bw):Bool:=
 (match x.dst with
  |some d=>!nG y.cQ d&&(match y.dst with|some e=>!ey e d|none=>true)
  |none=>true)&&
 (match y.dst with
  |some d=>!nG x.cQ d
  |none=>true)
def Eo(acc:List Nat)(o:Oper):Nat:=
 o.after.toList.foldl (fun s e=>bif Region.binds .any e then(s|||2^e.on)|||acc.getD e.on 0 else s) 0
def gF:List Oper->List Nat->List Nat
 |[],acc=>acc
 |o::os,acc=>gF os (acc++[Eo acc o])
def tw:Nat->List Oper->Bool
 |_,[]=>true
 |k,o::os=>o.after.toList.all (fun e=>!Region.binds .any e||iw e.on k)&&tw (k+1) os
def Fo(b:Nat)(y:bw):Nat->List bw->Bool
 |_,[]=>true
 |i,x::xs=>(b.testBit i||x.sq y)&&Fo b y (i+1) xs
def Fm(bg:List bw):List Nat->List bw->Bool
 |b::jz,y::bH=>Fo b y 0 (bg.take (bg.length -bH.length -1))&&Fm bg jz bH
 |_,_=>true
def BD(k:Nat)(b:Nat):Nat->List Nat->Bool
 |_,[]=>true
 |i,c::cs=>(bif iw i k then b.testBit i else bif iw k i then c.testBit k else true)&&BD k b (i+1) cs
def sV(B:List Nat):Nat->List Nat->List bw->List Bool
 |k,b::jz,o::os=>(!((o.op.ht||o.op.jH)&&BD k b 0 B))::sV B (k+1) jz os
 |_,_,_=>[]
def uo:List Bool->List bw->Bool
 |q::dR,o::os=>(!q||!o.op.ht)&&uo dR os
 |_,_=>true
def JX(aF:Array Oper)(bg:List bw):Option (List Bool):=
 let B:=gF aF.toList []
 let dR:=sV B 0 B bg
 bif tw 0 aF.toList&&Fm bg B bg&&uo dR bg&&Region.noSelect aF&&ey bg.length aF.size then some dR else none
def xe(p:Nat->Bool):Nat->Nat->Option Nat
 |_,0=>none
 |i,f+1=>bif p i then some i else xe p (i+1) f
def Ol(B:List Nat)(aP:List Bool)(n:Nat):Nat->Nat->List Nat->Option (List Nat)
 |0,_,acc=>some acc.reverse
 |f+1,jU,acc=>
  match xe (fun i=>!(jU.testBit i)&&ey (B.getD i 0&&&jU) (B.getD i 0)&&!(aP.getD i true)) 0 n with
  |some i=>Ol B aP n f (jU|||2^i) (i::acc)
  |none=>
   match xe (fun i=>!(jU.testBit i)&&ey (B.getD i 0&&&jU) (B.getD i 0)) 0 n with
   |some i=>Ol B aP n f (jU|||2^i) (i::acc)
   |none=>none
def ur(o:bw):Bool:=
 match o.guard with
 |none=>true
 |some _=>false
def n9(B aS:List Nat)(i k:Nat):Bool:=(B.getD (aS.getD k 0) 0).testBit (aS.getD i 0)
def oc(B aS:List Nat)(aP:List Bool)(n:Nat):List (Option (List Nat)):=
 (c5 n).map fun p=>bif aP.getD (aS.getD p 0) true then some ((c5 p).filter fun j=>!n9 B aS j p&&!aP.getD (aS.getD j 0) true) else none
def Ke(o:bw):Bool:=
 match o with
 |⟨some _,.alloc _,false,none⟩=>true
 |_=>false
def dM.x2:dM->Bool
 |.call _ _=>true
 |_=>false
def oa(fK:Bool)(o:bw):Bool:=o.op.ht||(o.op.jH&&!(fK&&o.op.x2))
def Ka(fK:Bool)(B aS:List Nat)(bL:List (Option (List Nat)))(bg:List bw)(n p:Nat):Bool:=
 !fK&&iw (p+1) n&&Ke (bg.getD p default)&&Ke (bg.getD (p+1) default)&&(match bL.getD (p+1) none with|some _=>true|none=>false)&&
  (c5 n).all fun i=>!iw (p+1) i||(n9 B aS p i&&n9 B aS (p+1) i)
def AD(fK:Bool)(B aS:List Nat)(bL:List (Option (List Nat)))(bg:List bw)(n p:Nat):Bool:=
 match bL.getD p none with
 |none=>!oa fK (bg.getD p default)
 |some l=>ur (bg.getD p default)&&((c5 n).all (fun i=>!iw p i||n9 B aS p i)||Ka fK B aS bL bg n p)&&
   (c5 p).all fun j=>n9 B aS j p||(ey (j+1) p&&Ka fK B aS bL bg n j)||(nG l j&&ur (bg.getD j default)&&(bg.getD j default).dst.isSome&&(match bL.getD j (some []) with|none=>true|some _=>false))
def JY(fK:Bool)(aF:Array Oper)(bg:List bw):Option (List bw×List (Option (List Nat))):=
 let n:=bg.length
 let B:=gF aF.toList []
 let aP:=bg.map (oa fK)
 match Ol B aP n n 0 [] with
 |none=>none
 |some aS=>
  let bk:=aS.map fun i=>bg.getD i default
  let bL:=oc B aS aP n
  bif ey aS.length n&&ey n aF.size&&tw 0 aF.toList&&(c5 n).all (fun k=>nG aS k)&&
   (c5 n).all (fun k=>iw (aS.getD k 0) n&&(c5 k).all fun i=>!ey (aS.getD i 0) (aS.getD k 0))&&
   (c5 n).all (fun k=>(c5 k).all fun i=>n9 B aS i k||(bk.getD i default).sq (bk.getD k default))&&
   (c5 n).all (fun p=>AD fK B aS bL bk n p) then some (bk,bL) else none
def J7(B:List Nat)(aP:List Bool)(rQ n:Nat):Nat->Nat->List Nat->Option (List Nat)
 |0,_,acc=>some acc.reverse
 |f+1,jU,acc=>
  match xe (fun i=>!(jU.testBit i)&&ey (B.getD i 0&&&jU) (B.getD i 0)&&!(aP.getD i true)) 0 n with
  |some i=>J7 B aP rQ n f (jU|||2^i) (i::acc)
  |none=>
   match xe (fun i=>!(jU.testBit i)&&ey (B.getD i 0&&&jU) (B.getD i 0)&&!ey i rQ) 0 n with
   |some i=>J7 B aP rQ n f (jU|||2^i) (i::acc)
   |none=>
    match xe (fun i=>!(jU.testBit i)&&ey (B.getD i 0&&&jU) (B.getD i 0)) 0 n with
    |some i=>J7 B aP rQ n f (jU|||2^i) (i::acc)
    |none=>none
def Et(f:Option (List Nat)):Bool:=
 match f with
 |none=>true
 |some _=>false
def J1(B aS:List Nat)(bL:List (Option (List Nat)))(bg:List bw)(n c p:Nat):Bool:=
 match bL.getD p none with
 |none=>AD false B aS bL bg n p
 |some l=>
  bif iw c p then AD false B aS bL bg n p else
  bif iw p c then ur (bg.getD p default)&&(c5 n).all (fun i=>!iw p i||ey i c||n9 B aS p i)&&
   (c5 p).all fun j=>n9 B aS j p||(nG l j&&ur (bg.getD j default)&&(bg.getD j default).dst.isSome&&Et (bL.getD j (some [])))
  else(c5 n).all (fun i=>!iw c i||n9 B aS c i)&&
   (c5 p).all fun j=>!Et (bL.getD j none)||n9 B aS j p||(nG l j&&ur (bg.getD j default)&&(bg.getD j default).dst.isSome)
def Oc(rQ:Nat)(aF:Array Oper)(bg:List bw):Option (Nat×List V×List bw×List (Option (List Nat))):=
 let n:=bg.length
 let B:=gF aF.toList []
 let aP:=bg.map (oa false)
 match J7 B aP rQ n n 0 [] with
 |none=>none
 |some aS=>
  let bk:=aS.map fun i=>bg.getD i default
  let bL:=oc B aS aP n
  match xe (fun p=>ey (aS.getD p 0) rQ) 0 n with
  |none=>none
  |some c=>
   match bk[c]?,bL[c]? with
   |some ⟨some _,.alloc z,false,none⟩,some (some _)=>
    bif ey aS.length n&&ey n aF.size&&tw 0 aF.toList&&(c5 n).all (fun k=>nG aS k)&&
     (c5 n).all (fun k=>iw (aS.getD k 0) n&&(c5 k).all fun i=>!ey (aS.getD i 0) (aS.getD k 0))&&
     (c5 n).all (fun k=>(c5 k).all fun i=>n9 B aS i k||(bk.getD i default).sq (bk.getD k default))&&
     (c5 n).all (fun p=>J1 B aS bL bk n c p) then some (c,z,bk,bL) else none
   |_,_=>none
def Vv:List Nat->Option Nat
 |[]=>none
 |x::xs=>bif iw 39999 x then some (x -40000) else Vv xs
structure Hints where
 live:List (Nat×List Nat):=[]
 loops:List (Nat×List Nat):=[]
 oD:List (Nat×List Nat):=[]
def look(l:List (Nat×List Nat))(k:Nat):List Nat:=
 match l with
 |[]=>[]
 |(a,xs)::r=>bif ey a k then xs else look r k
def pd:Code->Nat
 |.region id _ _=>id
 |.seq a b=>min (pd a) (pd b)
 |.cond _ a b=>min (pd a) (pd b)
 |.block _ a=>pd a
 |.loop a=>pd a
 |.scope a=>pd a
 |_=>1000000
def Mh:Code->Option Nat
 |.seq a b=>(Mh a).or (Mh b)
 |.label l=>some l
 |_=>none
def pO(P:Program)(n:Nat)(h:Hints):Nat->Code->Option a6
 |0,_=>none
 |k+1,c=>
  match c with
  |.skip=>some .skip
  |.region id aF zk=>
   match pP P n (look h.oD id) aF 0 aF.toList with
   |some os=>
    if zk then
     if P.follows .mixedOrders then
      match bif nG (look h.oD id) 9999||nG (look h.oD id) 9998 then none else JX aF os with
      |some dR=>some (.mixed os dR (look h.live id))
      |none=>
       match Vv (look h.oD id) with
       |some rQ=>(Oc rQ aF os).map (fun x=>.sE x.1 x.2.1 x.2.2.1 x.2.2.2 (look h.live id))
       |none=>(JY (nG (look h.oD id) 9998) aF os).map (fun x=>.float x.1 x.2 (look h.live id))
     else none
    else some (.region os (look h.live id))
   |none=>none
  |.seq a b=>q_ (pO P n h k a) (pO P n h k b) .seq
  |.cond c a b=>
   match b4 c,pO P n h k a,pO P n h k b with
   |some c,some a,some b=>some (.cond c a b)
   |_,_,_=>none
  |.block id a=>(pO P n h k a).map (.block id)
  |.loop a=>(pO P n h k a).map (.loop (look h.loops (pd a)))
  |.scope a=>
   match Mh a with
   |some l=>
    match findLabel a l with
    |some dB=>q_ (pO P n h k a) (pO P n h k dB) (.scope l (look h.loops (pd dB)))
    |none=>none
   |none=>none
  |.exit id=>some (.exit id)
  |.label _=>some .label
  |.goto l=>some (.goto l)
  |.ret=>some .ret
  |.rangeFunc _ _ _ _=>none
  |.refuse _=>none
def oI(P:Program)(n:Nat):List ResultVar->Option (List mn)
 |[]=>some []
 |.tmp t::rs=>(oI P n rs).map (.tmp t::·)
 |.cell t nh::rs=>
  match e7 P nh,kg P nh,oI P n rs with
  |some m,some bZ,some bg=>some (.cell t m bZ::bg)
  |_,_,_=>none
def bB(P:Program)(h:Hints)(f:Nat):Option bs:=
 match P.funcs[f]? with
 |some fn=>
  match fn.body with
  |some c=>
   bif fn.name != "runtime.NumGoroutine" then
    match pO P fn.ntmps h 200 c,oI P fn.ntmps fn.results.toList with
    |some b,some rs=>some ⟨fn.ntmps,rs,b⟩
    |_,_=>none
   else none
  |none=>none
 |none=>none
end Go.aL
namespace Go.aL
theorem aaP(v:V)(K:V->Prop):kZ (some v) K=K v:=rfl
theorem YK(A B:Prop):kc true A B=A:=rfl
theorem YH(A B:Prop):kc false A B=B:=rfl
theorem A2{p:Prop}[Decidable p]{A B:Prop}(aa:p->A)(af:¬p->B):kc (decide p) A B:=by
 by_cases h:p
 . simp only[h,decide_true];exact aa h
 . simp only[h,decide_false];exact af h
theorem YJ{b:Bool}{A B:Prop}(aa:b=true->A)(af:b=false->B):kc b A B:=by
 cases b
 . exact af rfl
 . exact aa rfl
theorem YI(b:Bool)(A B:Prop):kc (!b) A B=kc b B A:=by cases b<;>rfl
theorem Yj(P:Program)(a b:a6)(Q:Exit->aI->Mem->Prop)(s:aI)(M:Mem):dn P (.seq a b) Q s M=dn P a (yw (dn P b) Q) s M:=rfl
theorem aQH(P:Program)(Q:Exit->aI->Mem->Prop)(s:aI)(M:Mem):dn P .skip Q s M=Q .normal s M:=rfl
theorem aQD(P:Program)(Q:Exit->aI->Mem->Prop)(s:aI)(M:Mem):dn P .label Q s M=Q .normal s M:=rfl
theorem aQF(P:Program)(Q:Exit->aI->Mem->Prop)(s:aI)(M:Mem):dn P .ret Q s M=Q .ret s M:=rfl
theorem aQB(P:Program)(id:Nat)(Q:Exit->aI->Mem->Prop)(s:aI)(M:Mem):dn P (.exit id) Q s M=Q (.exit id) s M:=rfl
theorem aQC(P:Program)(l:Nat)(Q:Exit->aI->Mem->Prop)(s:aI)(M:Mem):dn P (.goto l) Q s M=Q (.goto l) s M:=rfl
theorem aQx(P:Program)(id:Nat)(a:a6)(Q:Exit->aI->Mem->Prop)(s:aI)(M:Mem):dn P (.block id a) Q s M=dn P a (p5 id Q) s M:=rfl
theorem aQy{P:Program}{c:aU}{a b:a6}{Q:Exit->aI->Mem->Prop}{s:aI}{M:Mem}{t:Bool}(h:aP s c=.bool t):dn P (.cond c a b) Q s M=kc t (dn P a Q s M) (dn P b Q s M):=by
 simp only[dn,h]
def Bl(v:V)(A B:Prop):Prop:=
 match v with
 |.bool t=>kc t A B
 |_=>False
theorem aQA(P:Program)(t:Nat)(a b:a6)(Q:Exit->aI->Mem->Prop)(s:aI)(M:Mem):dn P (.cond (.tmp t) a b) Q s M=Bl (aX s t) (dn P a Q s M) (dn P b Q s M):=by
 simp only[dn,aP,Bl]<;>cases aX s t<;>rfl
theorem aOQ(next:(Exit->aI->Mem->Prop)->aI->Mem->Prop)(Q:Exit->aI->Mem->Prop)(s:aI)(M:Mem):yw next Q .normal s M=next Q s M:=rfl
theorem aOR(next:(Exit->aI->Mem->Prop)->aI->Mem->Prop)(Q:Exit->aI->Mem->Prop)(s:aI)(M:Mem):yw next Q .ret s M=Q .ret s M:=rfl
theorem aOO(next:(Exit->aI->Mem->Prop)->aI->Mem->Prop)(Q:Exit->aI->Mem->Prop)(id:Nat)(s:aI)(M:Mem):yw next Q (.exit id) s M=Q (.exit id) s M:=rfl
theorem aOP(next:(Exit->aI->Mem->Prop)->aI->Mem->Prop)(Q:Exit->aI->Mem->Prop)(id:Nat)(s:aI)(M:Mem):yw next Q (.goto id) s M=Q (.goto id) s M:=rfl
theorem acB(id:Nat)(Q:Exit->aI->Mem->Prop)(s:aI)(M:Mem):p5 id Q .normal s M=Q .normal s M:=rfl
theorem acC(id:Nat)(Q:Exit->aI->Mem->Prop)(s:aI)(M:Mem):p5 id Q .ret s M=Q .ret s M:=rfl
theorem acA(id l:Nat)(Q:Exit->aI->Mem->Prop)(s:aI)(M:Mem):p5 id Q (.goto l) s M=Q (.goto l) s M:=rfl
theorem acz(id nF:Nat)(Q:Exit->aI->Mem->Prop)(s:aI)(M:Mem):p5 id Q (.exit nF) s M=bif nF==id then Q .normal s M else Q (.exit nF) s M:=rfl
theorem aOq(dA:Nat->List V->Mem->Prop)(n len:Nat)(live:List Nat)(Q:Exit->aI->Mem->Prop)(s:aI)(M:Mem):nU dA n len live Q .ret s M=Q .ret s M:=rfl
theorem aOo(dA:Nat->List V->Mem->Prop)(n len:Nat)(live:List Nat)(Q:Exit->aI->Mem->Prop)(id:Nat)(s:aI)(M:Mem):nU dA n len live Q (.exit id) s M=Q (.exit id) s M:=rfl
theorem aOp(dA:Nat->List V->Mem->Prop)(n len:Nat)(live:List Nat)(Q:Exit->aI->Mem->Prop)(id:Nat)(s:aI)(M:Mem):nU dA n len live Q (.goto id) s M=Q (.goto id) s M:=rfl
theorem uB{dA:Nat->List V->Mem->Prop}{n len:Nat}{live:List Nat}{Q:Exit->aI->Mem->Prop}{s:aI}{M:Mem}(m:Nat)(h:m<n)(lI:dA m (dr s live) M):nU dA n len live Q .normal s M:=.inl ⟨m,h,lI⟩
theorem Kp{dA:Nat->List V->Mem->Prop}{n len:Nat}{live:List Nat}{Q:Exit->aI->Mem->Prop}{s:aI}{M:Mem}(m:Nat)(h:m<n)(ay:hT len (dr s live) M=true)(lI:dA m (dr s live) (M.take len)):nU dA n len live Q .normal s M:=.inr ⟨ay,m,h,lI⟩
theorem lT{P:Program}{live:List Nat}{a:a6}{Q:Exit->aI->Mem->Prop}{s:aI}{M:Mem}(dA:Nat->List V->Mem->Prop)(n:Nat)(a8:dA n (dr s live) M)
 (h:∀n vs cE,dA n vs cE->dn P a (nU dA n M.length live Q) (ln live vs) cE):dn P (.loop live a) Q s M:=⟨dA,n,a8,h⟩
theorem aD9(rs:List mn)(R:Option V->Mem->Prop)(s:aI)(M:Mem):o8 rs R .normal s M=R (pN s M rs) M:=rfl
theorem aD_(rs:List mn)(R:Option V->Mem->Prop)(s:aI)(M:Mem):o8 rs R .ret s M=R (pN s M rs) M:=rfl
theorem Wy(base:Nat)(R:V->Mem->Prop)(v:V)(M:Mem):Kg base R (some v) M=kZ (eY M base 20 v) fun dT=>(dT.under base&&decide (base<=M.length)&&cq base (M.take base))=true/\R dT (M.take base):=rfl
theorem aK_(R:V->Mem->Prop)(v:V)(M:Mem):qz R (some v) M=R v M:=rfl
theorem n1(n:Int)(aa:-9223372036854775808<=n)(af:n<=9223372036854775807):IntKind.i64.wrap n=n:=by
 have e:(2:Int)^IntKind.i64.bits=18446744073709551616:=by decide
 have fx:(2:Int)^(IntKind.i64.bits -1)=9223372036854775808:=by decide
 unfold IntKind.wrap;simp only[e,fx,show IntKind.i64.signed=true from rfl,Bool.true_and,decide_eq_true_eq];split<;>omega
theorem Yo(n:Int)(aa:0<=n)(af:n<=18446744073709551615):IntKind.u64.wrap n=n:=by
 have e:(2:Int)^IntKind.u64.bits=18446744073709551616:=by decide
 unfold IntKind.wrap;simp only[e,show IntKind.u64.signed=false from rfl,oS];simp only[jh,if_false];omega
theorem toNat_sub1(i:Nat):((i:Int) -1).toNat=i -1:=by omega
theorem toNat_add1(i:Nat):((i:Int)+1).toNat=i+1:=by omega
theorem toNat_lit0:(0:Int).toNat=0:=rfl
theorem acb(k:IntKind)(e:iU)(a b:Int):dN .add e (.int k a) (.int k b)=some (.int k (k.wrap (a+b))):=by simp[dN,k3]
theorem acw(k:IntKind)(e:iU)(a b:Int):dN .sub e (.int k a) (.int k b)=some (.int k (k.wrap (a -b))):=by simp[dN,k3]
theorem acp(k:IntKind)(e:iU)(a b:Int):dN .mul e (.int k a) (.int k b)=some (.int k (k.wrap (a*b))):=by simp[dN,k3]
theorem Lw(k:IntKind)(e:iU)(a b:Int)(h:b≠0):dN .quo e (.int k a) (.int k b)=some (.int k (k.wrap (a.tdiv b))):=by simp[dN,k3,h]
theorem acj(k:IntKind)(e:iU)(a b:Int):dN .eql e (.int k a) (.int k b)=some (.bool (decide (a=b))):=by simp[dN,k3]
theorem acq(k:IntKind)(e:iU)(a b:Int):dN .neq e (.int k a) (.int k b)=some (.bool (!decide (a=b))):=by simp[dN,k3]
theorem aco(k:IntKind)(e:iU)(a b:Int):dN .lss e (.int k a) (.int k b)=some (.bool (decide (a<b))):=by simp[dN,k3]
theorem acn(k:IntKind)(e:iU)(a b:Int):dN .leq e (.int k a) (.int k b)=some (.bool (decide (a<=b))):=by simp[dN,k3]
theorem acl(k:IntKind)(e:iU)(a b:Int):dN .gtr e (.int k a) (.int k b)=some (.bool (decide (b<a))):=by simp[dN,k3]
theorem ack(k:IntKind)(e:iU)(a b:Int):dN .geq e (.int k a) (.int k b)=some (.bool (decide (b<=a))):=by simp[dN,k3]
def Fk(k:IntKind)(x y:Int):Int:=k.wrap ((iD k.bits x&&&iD k.bits y).toNat:Int)
def qH(k:IntKind)(x y:Int):Int:=k.wrap ((iD k.bits x|||iD k.bits y).toNat:Int)
def Yp(k:IntKind)(x y:Int):Int:=k.wrap ((iD k.bits x^^^iD k.bits y).toNat:Int)
def Lj(k:IntKind)(x y:Int):Int:=k.wrap ((iD k.bits x&&&~~~iD k.bits y).toNat:Int)
theorem acf(k:IntKind)(e:iU)(a b:Int):dN .and e (.int k a) (.int k b)=some (.int k (Fk k a b)):=by simp[dN,k3,ra,Fk]
theorem acs(k:IntKind)(e:iU)(a b:Int):dN .or e (.int k a) (.int k b)=some (.int k (qH k a b)):=by simp[dN,k3,ra,qH]
theorem acx(k:IntKind)(e:iU)(a b:Int):dN .xor e (.int k a) (.int k b)=some (.int k (Yp k a b)):=by simp[dN,k3,ra,Yp]
theorem acg(k:IntKind)(e:iU)(a b:Int):dN .andNot e (.int k a) (.int k b)=some (.int k (Lj k a b)):=by simp[dN,k3,ra,Lj]
theorem act(e:iU)(a b:List UInt8):dN .eql e (.str a) (.str b)=some (.bool (decide (a=b))):=rfl
theorem acu(e:iU)(a b:List UInt8):dN .neq e (.str a) (.str b)=some (.bool (!decide (a=b))):=rfl
theorem ach(a b:Bool):dN .eql .bool (.bool a) (.bool b)=some (.bool (decide (a=b))):=rfl
theorem aci(a b:Bool):dN .neq .bool (.bool a) (.bool b)=some (.bool (!decide (a=b))):=rfl
theorem aPX(b:Bool):wn .not (.bool b)=some (.bool (!b)):=rfl
theorem aPW(k:IntKind)(n:Int):wn .neg (.int k n)=some (.int k (k.wrap (0 -n))):=rfl
theorem aNr(a b:V):v8 (.bool true) a b=some a:=rfl
theorem aNp(a b:V):v8 (.bool false) a b=some b:=rfl
theorem aKY{sz:Nat}{rows:List (List V)}{c:c4}{k:IntKind}{i:Int}{M:Mem}(h:0<=i):iz sz (.slice rows c) (.int k i) M=(match rows[i.toNat]? with|some r=>bif r.length==sz then some (.gA r) else none|none=>none):=by
 simp only[iz,h,decide_true,cond_true]<;>rfl
theorem Vk{sz id ver start len:Nat}{k:IntKind}{i:Int}{M:Mem}(h:0<=i):iz sz (.aZ id ver start len) (.int k i) M=(match M[id]? with
 |some (.arr z rows v _)=>bif z==sz&&v==ver&&decide (i.toNat<len)&&decide (start+len<=rows.length) then some (.fq id ver (start+i.toNat) 0) else none
 |some (.vec cells v)=>bif sz==1&&v==ver&&decide (i.toNat<len)&&decide (start+len<=cells.length) then some (.fq id ver (start+i.toNat) 0) else none
 |_=>none):=by
 simp only[iz,h,decide_true,cond_true]<;>rfl
theorem aKT{len sz:Nat}{x:V}{k:IntKind}{i:Int}(h:0<=i)(af:i<len):pC len sz x (.int k i)=kL (i.toNat*sz) x:=by
 simp[pC,h,af]
theorem aKZ{s:List UInt8}{k:IntKind}{i:Int}(h:0<=i):vU (.str s) (.int k i)=(s[i.toNat]?).map fun b=>.int .u8 b.toNat:=by
 simp only[vU,h,decide_true,cond_true];cases s[i.toNat]? <;>rfl
theorem aMH(off:Nat)(cells:List V):kL off (.c7 cells)=bif decide (off<=cells.length) then some (.gA (cells.drop off)) else none:=rfl
theorem aLS(n:Nat)(bZ:Bool)(cells:List V)(M:Mem):g4 n bZ (.c7 cells) M=iM n bZ cells 0:=rfl
theorem aMJ(off:Nat)(cells:List V):kL off (.gA cells)=bif decide (off<=cells.length) then some (.gA (cells.drop off)) else none:=rfl
theorem aMI(off id o:Nat):kL off (.ptr id o)=some (.ptr id (o+off)):=rfl
theorem aMG(off id v row o:Nat):kL off (.fq id v row o)=some (.fq id v row (o+off)):=rfl
theorem aLU(n:Nat)(bZ:Bool)(cells:List V)(M:Mem):g4 n bZ (.gA cells) M=iM n bZ cells 0:=rfl
theorem aLT(n:Nat)(bZ:Bool)(id off:Nat)(M:Mem):g4 n bZ (.ptr id off) M=(match M[id]? with|some (.box cells)=>iM n bZ cells off|_=>none):=rfl
theorem VG(n:Nat)(bZ:Bool)(id ver row off:Nat)(M:Mem):g4 n bZ (.fq id ver row off) M=(match M[id]? with
 |some (.arr _ rows v _)=>
  bif v==ver then
   match rows[row]? with
   |some r=>iM n bZ r off
   |none=>none
  else none
 |some (.vec cells v)=>bif v==ver then EQ n bZ off cells row else none
 |_=>none):=rfl
theorem aLO(n:Nat)(cells:List V)(off:Nat):iM n false cells off=cells[off]? :=rfl
theorem aLN(n:Nat)(cells:List V)(off:Nat):iM n true cells off=bif decide (off+n<=cells.length) then some (.agg ((cells.drop off).take n)) else none:=rfl
theorem aLD(rows:List (List V))(c:c4)(M:Mem):iA (.slice rows c) M=some (.int .i64 rows.length):=rfl
theorem aLC(id ver start len:Nat)(M:Mem):iA (.aZ id ver start len) M=(match M[id]? with
 |some (.arr _ _ v _)=>bif v==ver then some (.int .i64 len) else none
 |some (.vec _ v)=>bif v==ver then some (.int .i64 len) else none
 |_=>none):=rfl
theorem aLx(s:List UInt8):x5 (.str s)=some (.int .i64 s.length):=rfl
theorem aEA(vs:List V)(i:Nat):xa (.tuple vs) i=vs[i]? :=rfl
theorem RA(k dk:IntKind)(n:Int):u3 k (.int dk n)=some (.int k (k.wrap n)):=rfl
theorem aEN(off n:Nat)(bZ:Bool)(cells:List V):xd off n bZ (.agg cells)=iM n bZ cells off:=rfl
end Go.aL
namespace Go.aL
open Go.RowKit (Below)
def ep(w:World)(Γ:Env)(s:aI)(tmps:Array Value):Prop:=∀t,bq w Γ (aX s t) (tmps.getD t Go.undef)
theorem ep.ext{w w':World}{Γ Γ':Env}(he:Ext w Γ w' Γ'){s:aI}{tmps:Array Value}(h:ep w Γ s tmps):ep w' Γ' s tmps:=fun t=>(h t).ext he
theorem Rq{w:World}{Γ:Env}{v:Value}{x:V}(h:FB v=some x):bq w Γ x v/\x.ku=true:=by
 unfold FB at h;split at h<;>simp only[aW,reduceCtorEq] at h
 . subst h;exact⟨.bool _,rfl⟩
 . subst h;exact⟨.int _ _,rfl⟩
 . subst h;exact⟨by simpa using bq.str (w:=w) (Γ:=Γ) _,rfl⟩
 . subst h;exact⟨.dE,rfl⟩
 . subst h;exact⟨.iO _ (.inl rfl),rfl⟩
 . subst h;exact⟨.jJ,rfl⟩
 . subst h;exact⟨.gz,rfl⟩
theorem FE{w:World}{Γ:Env}:∀{vs:List Value}{xs:List V},wY vs=some xs->vs.length=xs.length/\∀(j:Nat)(x:V),xs[j]? =some x->bq w Γ x (vs.toArray.getD j Go.undef)/\x.ku=true
 |[],xs,h=>by
  simp only[wY,aW] at h;subst h;exact⟨rfl,fun j x ad=>by simp at ad⟩
 |v::vs,xs,h=>by
  simp only[wY] at h;split at h<;>simp only[aW,reduceCtorEq] at h;rename_i x bH aa af;subst h;obtain⟨ag,an⟩:=FE af;refine⟨by simp[ag],fun j y aE=>?_⟩;cases j with
  |zero=>
   simp only[ji,aW] at aE;subst aE;simpa using Rq aa
  |succ j=>
   simp only[List.getElem?_cons_succ] at aE;have:=an j y aE;simpa[iq] using this
theorem aDu{w:World}{Γ:Env}{v:Value}{x:V}(h:LN v=some x):bq w Γ x v:=by
 unfold LN at h;split at h
 . rename_i cs
   cases ar:wY cs.toList with
   |none=>simp[ar] at h
   |some xs=>
    simp only[ar,lY,aW] at h;subst h;obtain⟨ag,an⟩:=FE (w:=w) (Γ:=Γ) ar;exact .agg xs cs (by simpa using ag) (fun j x ad=>by simpa using(an j x ad).1)
 . exact(Rq h).1
theorem d5{w:World}{Γ:Env}{s:aI}{a:Act}(ak:ep w Γ s a.tmps){x:Operand}{y:aU}(h:b4 x=some y):bq w Γ (aP s y) (a.eval x):=by
 cases x with
 |tmp t=>
  simp only[b4,aW] at h;subst h;exact ak t
 |const v=>
  simp only[b4,dK] at h;obtain⟨z,a_,rfl⟩:=h;exact aDu a_
 |func f=>
  simp only[b4,aW] at h;subst h;exact .dF f [] #[] rfl (fun j x ad=>by simp at ad) (fun j x ad=>by simp at ad)
 |global g=>simp[b4] at h
theorem J3{w:World}{Γ:Env}{s:aI}{a:Act}(ak:ep w Γ s a.tmps):∀{xs:List Operand}{bH:List aU},sX xs=some bH->ek w Γ (e_ s bH) (xs.map a.eval).toArray
 |[],bH,h=>by
  simp only[sX,aW] at h;subst h;exact⟨rfl,fun j x ad=>by simp[e_] at ad⟩
 |x::xs,bH,h=>by
  simp only[sX] at h;split at h<;>simp only[aW,reduceCtorEq] at h;rename_i y lU aa af;subst h;obtain⟨ag,an⟩:=J3 ak af;refine⟨by simp[e_] at ag⊢;exact ag,fun j z a_=>?_⟩;cases j with
  |zero=>
   simp only[e_,ji,aW] at a_;subst a_;simpa using d5 ak aa
  |succ j=>
   simp only[e_,List.getElem?_cons_succ] at a_;have:=an j z a_;simpa[iq] using this
def hB(P:Program)(w:World)(Γ:Env)(a:Act)(o:Oper)(v:V):Prop:=
 ∃bn,bq w Γ v bn/\∀w',Below w.heap.size w w'->(execOp a.eval o).run P w'=.ok (.value bn) w'
section
variable{P:Program}{w:World}{Γ:Env}{M:Mem}{s:aI}{a:Act}{o:Oper}{v:V}
theorem et{t:TypeId}{d:TypeDesc}(h:P.underlying t=some d)(w':World):(underlying t).run P w'=.ok d w':=by
 simp[underlying,h]
theorem g6{t:TypeId}{n:Nat}(h:e7 P t=some n)(w':World):(sizeOf t).run P w'=.ok n w':=by
 unfold e7 at h;split at h<;>simp only[aW,reduceCtorEq] at h;rename_i i hi;subst h;simp[sizeOf,typeInfo,hi]
theorem vW{t:TypeId}{b:Bool}(h:kg P t=some b)(w':World):(isAgg t).run P w'=.ok b w':=by
 unfold kg at h;split at h<;>simp only[aW,reduceCtorEq] at h<;>subst h
 . rename_i hu;simp[isAgg,underlying,hu]
 . rename_i hu;simp[isAgg,underlying,hu]
 . rename_i d aa af hu
   simp only[isAgg,underlying,Sem.run_bind,run_program,Result.andThen_ok,hu,Sem.run_pure]
theorem Of(ak:ep w Γ s a.tmps){x:Operand}{y:aU}(aA:o.op=.move x∨o.op=.assign x)(aE:b4 x=some y):hB P w Γ a o (aP s y):=by
 refine⟨a.eval x,d5 ak aE,fun w' _=>?_⟩;rcases aA with aA|aA<;>simp[execOp,aA]
theorem qP{x:V}{b:Bool}{bn:Value}(h:bq w Γ x bn)(ad:x=.bool b):bn=.bool b:=by
 subst ad;cases h;rfl
theorem kv{k:IntKind}{n:Int}{bn:Value}(h:bq w Γ (.int k n) bn):bn=.int k n:=by
 cases h;rfl
theorem r1{l:List UInt8}{bn:Value}(h:bq w Γ (.str l) bn):bn=.string ⟨l.toArray⟩:=by
 cases h;rfl
theorem aNq(ak:ep w Γ s a.tmps){c x y:Operand}{cK dh hh:aU}(aA:o.op=.pick c x y)(ar:b4 c=some cK)(ad:b4 x=some dh)(aE:b4 y=some hh)
 (h:v8 (aP s cK) (aP s dh) (aP s hh)=some v):hB P w Γ a o v:=by
 unfold v8 at h;split at h<;>simp only[aW,reduceCtorEq] at h;rename_i t aV;have e:=qP (d5 ak ar) aV;subst h;cases t with
 |true=>exact⟨a.eval x,d5 ak ad,fun w' _=>by simp[execOp,aA,e,asBool]⟩
 |false=>exact⟨a.eval y,d5 ak aE,fun w' _=>by simp[execOp,aA,e,asBool]⟩
def wJ(w:World)(Γ:Env)(b o:Nat)(cells:List V):Prop:=∀(j:Nat)(x:V),cells[j]? =some x->∃c,w.cell? ⟨b,o+j,none⟩=some c/\bq w Γ x c
theorem aC5{b j:Nat}{c:Value}(h:w.cell? ⟨b,j,none⟩=some c):b<w.heap.size:=World.block_lt_of_cell? (a:=⟨b,j,none⟩) w h
theorem LG{w':World}{b j:Nat}{c:Value}(h:w.cell? ⟨b,j,none⟩=some c)(aj:Below w.heap.size w w'):w'.cell? ⟨b,j,none⟩=some c:=
 (tu (aj.block b (aC5 h))).trans h
theorem bq.row(aB:Good w Γ M){x:V}{bj:Value}(h:bq w Γ x bj):match x with
 |.gA cells=>∃b o,bj=.pointer (some ⟨b,o,none⟩)/\wJ w Γ b o cells
 |.c7 cells=>∃b o,bj=.pointer (some ⟨b,o,none⟩)/\wJ w Γ b o cells
 |.ptr id off=>∃b,bj=.pointer (some ⟨b,off,none⟩)/\∀cells,M[id]? =some (.box cells)->wJ w Γ b 0 cells
 |.fq id ver row off=>∀sz rows fz r,M[id]? =some (.arr sz rows ver fz)->rows[row]? =some r->∃b o,bj=.pointer (some ⟨b,o+off,none⟩)/\wJ w Γ b o r
 |_=>True:=by
 cases h with
 |gA cells b o bn ak dO ay an=>
  refine⟨b,o,rfl,fun j x ad=>⟨bn j,dO j (bo.1 ad).1,an j x ad⟩⟩
 |c7 cells b o bn aK ak dO ay an=>
  refine⟨b,o,rfl,fun j x ad=>⟨bn j,congrArg Prod.fst (dO j (bo.1 ad).1),an j x ad⟩⟩
 |ptr id off l ag aj aq=>
  refine⟨l.b,rfl,fun cells a7 j x ad=>?_⟩;obtain⟨c,aa,af,_⟩:=aB.acJ ag a7 ad;exact⟨c,by simpa using aa,af⟩
 |fq id ver row off l ag aq v h=>
  intro sz rows fz r a7 an;obtain⟨aa,a8,af,az,bh,bC,ca,dY,cp⟩:=aB.eL id l _ ag a7;have iy:row<rows.length:=(bo.1 an).1;have eh:l.live=true:=by
   cases jE:l.live with
   |true=>rfl
   |false=>have:=bC jE;omega
  obtain⟨_,c,T,cp,eU,fy⟩:=cp eh;refine⟨l.b,row*l.sz,by rw[h af],fun j x ad=>?_⟩;have ap:j<l.sz:=by rw[<-ca row r an];exact(bo.1 ad).1
  have bx:row*l.sz+j<c.size:=by
   rw[eU];have:(row+1)*l.sz<=l.cap*l.sz:=jv _ (by omega);rw[iv] at this;omega
  exact⟨c.getD (row*l.sz+j) Go.undef,by rw[kB cp];exact jV bx,fy row r j x an ad⟩
 |_=>trivial
theorem bq.aQc(aB:Good w Γ M){id ver row off:Nat}{bj:Value}(h:bq w Γ (.fq id ver row off) bj){cells:List V}(a7:M[id]? =some (.vec cells ver)){x:V}(ad:cells[row]? =some x):
 ∃b,bj=.pointer (some ⟨b,row+off,none⟩)/\wJ w Γ b row [x]:=by
 cases h with
 |fq _ _ _ _ l ag aq p ay=>
  obtain⟨aa,a8,af,bh,bC,cp⟩:=aB.eL id l _ ag a7;have iy:row<cells.length:=(bo.1 ad).1;have eh:l.live=true:=by
   cases jE:l.live with
   |true=>rfl
   |false=>have:=bC jE;omega
  obtain⟨_,c,T,cp,eU,fy⟩:=cp eh;refine⟨l.b,by rw[ay af,a8,kY],fun j y aE=>?_⟩;have ap:j=0:=by
   have:=(bo.1 aE).1;simp at this;omega
  subst ap;simp only[ji,aW] at aE;subst aE;exact⟨c.getD row Go.undef,by rw[kB cp];exact jV (by omega),fy row x ad⟩
theorem aQb{n off:Nat}{bZ:Bool}{cells:List V}{row:Nat}(h:EQ n bZ off cells row=some v):n=1/\bZ=false/\off=0/\cells[row]? =some v:=by
 unfold EQ at h;split at h
 . exact⟨rfl,rfl,rfl,h⟩
 . cases h
theorem VE{b o n off:Nat}{bZ:Bool}{cells:List V}(h:wJ w Γ b o cells)(ag:iM n bZ cells off=some v):
 match bZ with
 |true=>∃(xs:List V)(bn:Nat->Value),v=.agg xs/\xs.length=n/\(∀j,j<n->w.cell? ⟨b,o+off+j,none⟩=some (bn j))/\∀(j:Nat)(x:V),xs[j]? =some x->bq w Γ x (bn j)
 |false=>∃c,w.cell? ⟨b,o+off,none⟩=some c/\bq w Γ v c:=by
 unfold iM at ag;cases bZ with
 |true=>
  simp only at ag;cases aw:decide (off+n<=cells.length) with
  |false=>simp[aw] at ag
  |true=>
   simp only[aw,cond_true,aW] at ag;have hle:off+n<=cells.length:=by simpa using aw
   have key:∀j,j<n->∃c,w.cell? ⟨b,o+off+j,none⟩=some c/\∀x,cells[off+j]? =some x->bq w Γ x c:=fun j ap=>by
    obtain⟨c,aa,af⟩:=h (off+j) (cells[off+j]'(by omega)) (by simp);refine⟨c,by rw[kX];exact aa,fun x ad=>?_⟩;rw[gg (by omega)] at ad;simp only[aW] at ad;exact ad▸af
   refine⟨(cells.drop off).take n,fun j=>if ap:j<n then(key j ap).choose else Go.undef,ag.symm,by simp;omega,fun j ap=>?_,fun j x ad=>?_⟩
   . simp only[ap,dite_true];exact(key j ap).choose_spec.1
   . have ap:j<n:=by
      have:=(bo.1 ad).1;simp at this;omega
     simp only[ap,dite_true];refine(key j ap).choose_spec.2 x ?_;rw[hA ap,kW] at ad;exact ad
 |false=>
  simp only at ag;obtain⟨c,aa,af⟩:=h off v ag;exact⟨c,aa,af⟩
theorem Addr.ly(b o n:Nat):(Addr.mk b o none).add n=⟨b,o+n,none⟩:=by
 unfold Addr.add;split
 . subst_vars;rfl
 . rfl
theorem VF(aB:Good w Γ M){n:Nat}{bZ:Bool}{x:V}{bj:Value}(h:bq w Γ x bj)(ag:g4 n bZ x M=some v):
 ∃b o off cells,bj=.pointer (some ⟨b,o+off,none⟩)/\wJ w Γ b o cells/\iM n bZ cells off=some v:=by
 have an:=h.row aB;unfold g4 at ag;split at ag
 . rename_i cells
   obtain⟨b,o,aa,af⟩:=an;exact⟨b,o,0,cells,aa,af,ag⟩
 . rename_i cells
   obtain⟨b,o,aa,af⟩:=an;exact⟨b,o,0,cells,aa,af,ag⟩
 . rename_i id off
   split at ag
   . rename_i cells a7
     obtain⟨b,aa,af⟩:=an;exact⟨b,0,off,cells,by rw[aa,ee],af cells a7,ag⟩
   . cases ag
 . rename_i id ver row off
   split at ag
   . rename_i z rows dT fz a7
     cases aj:dT==ver with
     |false=>simp[aj] at ag
     |true=>
      simp only[beq_iff_eq] at aj;subst aj;simp only[beq_self_eq_true,cond_true] at ag;split at ag
      . rename_i r jY
        obtain⟨b,o,aa,af⟩:=an z rows fz r a7 jY;exact⟨b,o,off,r,aa,af,ag⟩
      . cases ag
   . rename_i cells dT a7
     cases aj:dT==ver with
     |false=>simp[aj] at ag
     |true=>
      simp only[beq_iff_eq] at aj;subst aj;simp only[beq_self_eq_true,cond_true] at ag;obtain⟨rfl,rfl,rfl,ad⟩:=aQb ag;obtain⟨b,aa,af⟩:=h.aQc aB a7 ad;exact⟨b,row,0,[v],aa,af,rfl⟩
   . cases ag
 . cases ag
theorem VH(aB:Good w Γ M)(ak:ep w Γ s a.tmps){t:TypeId}{x:Operand}{n:Nat}{bZ:Bool}{y:aU}(aA:o.op=.load t x)(aK:e7 P t=some n)(a9:kg P t=some bZ)(aE:b4 x=some y)
 (h:g4 n bZ (aP s y) M=some v):hB P w Γ a o v:=by
 obtain⟨b,off,o',cells,ar,iy,ag⟩:=VF aB (d5 ak aE) h;have hs:=VE iy ag;cases bZ with
 |true=>
  obtain⟨xs,bn,rfl,hlen,dO,an⟩:=hs;refine⟨.agg ((c5 n).map bn).toArray,.agg xs _ (by simp[hlen]) (fun j x ad=>?_),fun w' aj=>?_⟩
  . have ap:j<n:=by rw[<-hlen];exact(bo.1 ad).1
    have:=an j x ad;simpa[iq,ap] using this
  . have cw:=run_loadCells (P:=P) w' ⟨b,off+o',none⟩ n bn (fun j ap=>by rw[Addr.ly];exact LG (dO j ap) aj)
    simp[execOp,aA,Instr.loadAt,Instr.sureAddr,ar,loadVar,vW a9,g6 aK,cw]
 |false=>
  obtain⟨c,dO,an⟩:=hs;refine⟨c,an,fun w' aj=>?_⟩;simp[execOp,aA,Instr.loadAt,Instr.sureAddr,ar,loadVar,vW a9,LG dO aj]
theorem V9{x:V}{bj:Value}(h:bq w Γ x bj){off:Nat}(hm:kL off x=some v):
 ∃p,bj=.pointer (some p)/\bq w Γ v (.pointer (some (p.add off))):=by
 unfold kL at hm;split at hm
 . rename_i cells
   cases aw:decide (off<=cells.length) with
   |false=>simp[aw] at hm
   |true=>
    simp only[aw,cond_true,aW] at hm;have hle:off<=cells.length:=by simpa using aw
    subst hm;cases h with
    |gA _ b o bn ak dO ay an=>
     refine⟨_,rfl,?_⟩;rw[Addr.ly];refine .gA _ b (o+off) (fun j=>bn (off+j)) (fun j ap=>?_) (fun j ap=>?_) (fun j x ad=>?_) (fun j x ad=>?_)
     . rw[kX];exact ak _ (by simp at ap;omega)
     . rw[kX];exact dO _ (by simp at ap;omega)
     . rw[kW] at ad;exact ay _ _ ad
     . rw[kW] at ad;exact an _ _ ad
 . rename_i cells
   cases aw:decide (off<=cells.length) with
   |false=>simp[aw] at hm
   |true=>
    simp only[aw,cond_true,aW] at hm;have hle:off<=cells.length:=by simpa using aw
    subst hm;cases h with
    |c7 _ b o bn aK ak dO ay an=>
     refine⟨_,rfl,?_⟩;rw[Addr.ly];refine .gA _ b (o+off) (fun j=>bn (off+j)) (fun j ap=>?_) (fun j ap=>?_) (fun j x ad=>?_) (fun j x ad=>?_)
     . rw[kX];exact ak _ (by simp at ap;omega)
     . rw[kX];exact congrArg Prod.fst (dO _ (by simp at ap;omega))
     . rw[kW] at ad;exact ay _ _ ad
     . rw[kW] at ad;exact an _ _ ad
 . simp only[aW] at hm
   subst hm;cases h with
   |ptr id o l ag aj aq=>exact⟨_,rfl,by rw[Addr.ly];exact .ptr _ _ l ag aj aq⟩
 . simp only[aW] at hm
   subst hm;cases h with
   |fq id ver row o l ag aq p h=>exact⟨_,rfl,.fq _ _ _ _ l ag aq _ (fun e=>by rw[h e,Addr.ly,kX])⟩
 . cases hm
theorem aEM(ak:ep w Γ s a.tmps){t:TypeId}{x:Operand}{f:Nat}{bR:Array Field}{g:Field}{n:Nat}{y:aU}(aA:o.op=.fieldAddr t x f)
 (hu:P.underlying t=some (.struct bR))(aD:bR[f]? =some g)(aK:e7 P g.type=some n)(qn:n≠0)(aE:b4 x=some y)(h:kL g.offset (aP s y)=some v):hB P w Γ a o v:=by
 obtain⟨p,ar,an⟩:=V9 (d5 ak aE) h;refine⟨_,an,fun w' _=>?_⟩;simp[execOp,aA,Instr.fieldAt,et hu,aD,Instr.sureAddr,ar,fieldPlace,g6 aK,qn]
theorem aKU(ak:ep w Γ s a.tmps){t e:TypeId}{x i:Operand}{len n:Nat}{y j:aU}(aA:o.op=.indexAddr t x i)
 (hu:P.underlying t=some (.array len e))(aK:e7 P e=some n)(aE:b4 x=some y)(ap:b4 i=some j)(h:pC len n (aP s y) (aP s j)=some v):hB P w Γ a o v:=by
 unfold pC at h;split at h
 . rename_i k q aG
   cases aw:(decide (0<=q)&&decide (q<(len:Int))) with
   |false=>simp[aw] at h
   |true=>
    simp only[aw,cond_true] at h;obtain⟨p,ar,an⟩:=V9 (d5 ak aE) h;have hi:=d5 ak ap;rw[aG] at hi;have hi:=kv hi;simp only[cc,decide_eq_true_eq] at aw;refine⟨_,an,fun w' _=>?_⟩;simp[execOp,aA,Instr.indexAt,hi,asIntOf,et hu,ar,Instr.sureAddr,aw,g6 aK]
 . cases h
end
end Go.aL
namespace Go.aL
open Go.RowKit (Below)
section
variable{P:Program}{w:World}{Γ:Env}{M:Mem}{s:aI}{a:Act}{o:Oper}{v:V}
theorem fg{α:Type}{b:Bool}{x y:α}(h:(bif b then some x else none)=some y):b=true/\x=y:=by
 cases b with
 |true=>simpa using h
 |false=>simp at h
theorem rk{α:Type}{b:Bool}{x:Option α}{y:α}(h:(bif b then x else none)=some y):b=true/\x=some y:=by
 cases b with
 |true=>exact⟨rfl,by simpa using h⟩
 |false=>simp at h
theorem bq.Fs(aB:Good w Γ M){id:Nat}{l:Loc}(ag:Γ.c0[id]? =some l){sz ver fz:Nat}{rows:List (List V)}(a7:M[id]? =some (.arr sz rows ver fz))(cD:rows≠[]):l.live=true:=by
 obtain⟨aa,a8,af,az,bh,bC,ca,dY,cp⟩:=aB.eL id l _ ag a7;cases jE:l.live with
 |true=>rfl
 |false=>
  have:=bC jE;have:rows.length=0:=by omega
  exact absurd (List.length_eq_zero_iff.1 this) cD
theorem aKX(aB:Good w Γ M)(ak:ep w Γ s a.tmps){t e:TypeId}{x i:Operand}{n:Nat}{y j:aU}(aA:o.op=.indexAddr t x i)
 (hu:P.underlying t=some (.slice e))(aK:e7 P e=some n)(aE:b4 x=some y)(ap:b4 i=some j)(h:iz n (aP s y) (aP s j) M=some v):hB P w Γ a o v:=by
 have ad:=d5 ak aE;have hi:=d5 ak ap;unfold iz at h;split at h
 . rename_i k q aG
   rw[aG] at hi;have hi:=kv hi;cases aw:decide (0<=q) with
   |false=>simp[aw] at h
   |true=>
    have xK:0<=q:=by simpa using aw
    simp only[aw,cond_true] at h;split at h
    . rename_i rows c sS
      rw[sS] at ad;split at h
      . rename_i r an
        obtain⟨om,rfl⟩:=fg h;have om:r.length=n:=by simpa using om
        have bx:q.toNat<rows.length:=(bo.1 an).1;generalize d7:a.eval x=bj at ad;cases ad with
        |iO=>simp at bx
        |lR=>simp at bx
        |slice _ _ b of sz cap bn ar aD f7 fT bl dO ay f0=>
         have DB:sz=n:=by rw[<-om];exact(fT _ _ an).symm
         subst DB;refine⟨.pointer (some ⟨b,of+q.toNat*sz,none⟩),?_,fun w' _=>?_⟩
         . refine .gA r b _ (fun j=>bn q.toNat j) (fun j ap=>?_) (fun j ap=>?_) (fun j x ad=>ay _ _ _ _ an ad) (fun j x ad=>f0 _ _ _ _ an ad)
           . rw[kX];exact bl _ _ bx (by omega)
           . rw[kX];exact dO _ _ bx (by omega)
         . have:q<(rows.length:Int):=by omega
           simp[execOp,aA,Instr.indexAt,hi,asIntOf,et hu,d7,xK,this,g6 aK,Addr.ly]
      . cases h
    . rename_i id ver start len xE
      rw[xE] at ad;split at h
      . rename_i z rows dT fz a7
        obtain⟨aj,rfl⟩:=fg h;simp only[cc,beq_iff_eq,decide_eq_true_eq] at aj;obtain⟨⟨⟨a_,aq⟩,bx⟩,hle⟩:=aj;generalize d7:a.eval x=bj at ad;cases ad with
        |aZ _ _ _ _ l ag hL _ eA ar=>
         obtain⟨aa,a8,af,az,bh,bC,ca,dY,cp⟩:=aB.eL id l _ ag a7;have eh:l.live=true:=bq.Fs aB ag a7 (by rintro rfl;simp at hle;omega);rcases eA (by rw[af,aq]) with⟨aw,_⟩|⟨_,f7,of,ie,rfl,i5,hs,gJ⟩
         . rw[eh] at aw;cases aw
         . have gJ:=gJ (by omega)
           subst gJ;have NM:l.sz=n:=by rw[a8,a_]
           refine⟨.pointer (some ⟨l.b,start*l.sz+q.toNat*n,none⟩),?_,fun w' _=>?_⟩
           . refine .fq _ _ _ _ l ag hL _ (fun _=>?_)
             rw[NM,iv,iT]
           . have:q<(len:Int):=by omega
             simp[execOp,aA,Instr.indexAt,hi,asIntOf,et hu,d7,xK,this,g6 aK,Addr.ly]
      . rename_i cells dT a7
        obtain⟨aj,rfl⟩:=fg h;simp only[cc,beq_iff_eq,decide_eq_true_eq] at aj;obtain⟨⟨⟨a_,aq⟩,bx⟩,hle⟩:=aj;generalize d7:a.eval x=bj at ad;cases ad with
        |aZ _ _ _ _ l ag hL _ eA ar=>
         obtain⟨aa,a8,af,bh,bC,cp⟩:=aB.eL id l _ ag a7;have eh:l.live=true:=by
          cases jE:l.live with
          |true=>rfl
          |false=>have:=bC jE;omega
         rcases eA (by rw[af,aq]) with⟨aw,_⟩|⟨_,f7,of,ie,rfl,i5,hs,gJ⟩
         . rw[eh] at aw;cases aw
         . have gJ:=gJ (by omega)
           subst gJ;have NM:l.sz=n:=by rw[a8,a_]
           refine⟨.pointer (some ⟨l.b,start*l.sz+q.toNat*n,none⟩),?_,fun w' _=>?_⟩
           . refine .fq _ _ _ _ l ag hL _ (fun _=>?_)
             rw[NM,iv,iT]
           . have:q<(len:Int):=by omega
             simp[execOp,aA,Instr.indexAt,hi,asIntOf,et hu,d7,xK,this,g6 aK,Addr.ly]
      . cases h
    . cases h
 . cases h
theorem aK1(ak:ep w Γ s a.tmps){t:TypeId}{x i:Operand}{y j:aU}(aA:o.op=.index t x i)
 (hu:P.underlying t=some .string)(aE:b4 x=some y)(ap:b4 i=some j)(h:vU (aP s y) (aP s j)=some v):hB P w Γ a o v:=by
 have ad:=d5 ak aE;have hi:=d5 ak ap;unfold vU at h;split at h
 . rename_i b k q aj aG
   rw[aG] at hi;rw[aj] at ad;have hi:=kv hi;have ad:=r1 ad;cases aw:decide (0<=q) with
   |false=>simp[aw] at h
   |true=>
    have xK:0<=q:=by simpa using aw
    simp only[aw,cond_true] at h;split at h
    . rename_i u ot
      simp only[aW] at h;subst h;refine⟨_,.int .u8 _,fun w' _=>?_⟩;have bx:q.toNat<b.length:=(bo.1 ot).1;have gx:(sh b.toArray)[q.toNat]? =some u:=by
       have fT:q.toNat<(sh b.toArray).size:=by simpa[ByteArray.size] using bx
       rw[getElem?_pos (sh b.toArray) q.toNat fT];have:(sh b.toArray)[q.toNat]'fT=b[q.toNat]:=by rfl
       rw[this,<-ot,gg bx]
      simp[execOp,aA,Instr.index,hi,asIntOf,et hu,ad,xK,gx]
    . cases h
 . cases h
theorem Wp{t:TypeId}{n off:Nat}{bZ:Bool}{xs:List V}{cs:Array Value}(aK:e7 P t=some n)(a9:kg P t=some bZ)(an:ek w Γ xs cs)(h:iM n bZ xs off=some v):
 ∃bn,bq w Γ v bn/\∀w',(part t cs off).run P w'=.ok bn w':=by
 unfold iM at h;cases bZ with
 |true=>
  obtain⟨aw,rfl⟩:=fg h;have hle:off+n<=xs.length:=by simpa using aw
  refine⟨.agg (cs.extract off (off+n)),.agg _ _ (by simp[an.1];omega) (fun j x ad=>?_),fun w'=>by simp[part,vW a9,g6 aK]⟩;have ap:j<n:=by
   have:=(bo.1 ad).1;simp at this;omega
  rw[hA ap,kW] at ad;have:=an.2 _ _ ad;have bx:off+j<cs.size:=by rw[an.1];omega
  simpa[iq,bx,show off+j<min (off+n) cs.size from by omega,Array.getElem?_extract,show j<min (off+n) cs.size -off from by omega] using this
 |false=>
  have:=an.2 _ _ h;have bx:off<cs.size:=by rw[an.1];exact(bo.1 h).1
  exact⟨_,this,fun w'=>by simp[part,vW a9,bx]⟩
theorem aEO(ak:ep w Γ s a.tmps){t:TypeId}{x:Operand}{f n:Nat}{bZ:Bool}{bR:Array Field}{g:Field}{y:aU}(aA:o.op=.field t x f)
 (hu:P.underlying t=some (.struct bR))(aD:bR[f]? =some g)(aK:e7 P g.type=some n)(a9:kg P g.type=some bZ)(aE:b4 x=some y)(h:xd g.offset n bZ (aP s y)=some v):hB P w Γ a o v:=by
 have ad:=d5 ak aE;unfold xd at h;split at h
 . rename_i cells ar
   rw[ar] at ad;generalize d7:a.eval x=bj at ad;cases ad with
   |agg _ cs ag an=>
    obtain⟨bn,aa,af⟩:=Wp aK a9 ⟨ag,an⟩ h;exact⟨bn,aa,fun w' _=>by simp[execOp,aA,Instr.field,et hu,aD,d7,asAgg,af]⟩
 . cases h
theorem aK0(ak:ep w Γ s a.tmps){t e:TypeId}{x i:Operand}{len n:Nat}{bZ:Bool}{y j:aU}(aA:o.op=.index t x i)
 (hu:P.underlying t=some (.array len e))(aK:e7 P e=some n)(a9:kg P e=some bZ)(aE:b4 x=some y)(ap:b4 i=some j)(h:An len n bZ (aP s y) (aP s j)=some v):hB P w Γ a o v:=by
 have ad:=d5 ak aE;have hi:=d5 ak ap;unfold An at h;split at h
 . rename_i cells k q ar aG
   rw[ar] at ad;rw[aG] at hi;have hi:=kv hi;cases aw:(decide (0<=q)&&decide (q<(len:Int))) with
   |false=>simp[aw] at h
   |true=>
    simp only[aw,cond_true] at h;simp only[cc,decide_eq_true_eq] at aw;generalize d7:a.eval x=bj at ad;cases ad with
    |agg _ cs ag an=>
     obtain⟨bn,aa,af⟩:=Wp aK a9 ⟨ag,an⟩ h;exact⟨bn,aa,fun w' _=>by simp[execOp,aA,Instr.index,hi,asIntOf,et hu,d7,aw,g6 aK,af]⟩
 . cases h
theorem aMZ(ak:ep w Γ s a.tmps){x:Operand}{y:aU}(aA:o.op=.nilCheck x)(aE:b4 x=some y)(h:nS (aP s y)=some v):hB P w Γ a o v:=by
 have ad:=d5 ak aE;obtain⟨aw,rfl⟩:=fg h;refine⟨_,ad,fun w' _=>?_⟩;generalize d7:a.eval x=bj at ad;generalize aP s y=z at ad aw;cases ad<;>first|(cases aw;done)|(simp only[execOp,aA,d7];rfl)
theorem aMD(ak:ep w Γ s a.tmps){f:Nat}{first c3:Array Operand}{bH:List aU}(aA:o.op=.makeFunc (.func f) first c3)(M4:first.isEmpty=true)(aE:sX c3.toList=some bH):hB P w Γ a o (yi f (e_ s bH)):=by
 obtain⟨ag,an⟩:=J3 ak aE;have Db:first=#[]:=by simpa using M4
 have aHG:∀xs:List V,hC xs=true->∀(j:Nat)(x:V),xs[j]? =some x->x.ku=true:=by
  intro xs;induction xs with
  |nil=>intro _ j x ad;simp at ad
  |cons z lU bu=>
   intro ay j x ad;simp only[hC,cc] at ay;cases j with
   |zero=>simp at ad;exact ad▸ay.1
   |succ j=>exact bu ay.2 j x (by simpa using ad)
 subst Db;refine⟨.func (.func f) #[] (c3.map a.eval),?_,fun w' _=>by simp only[execOp,aA,Instr.makeFunc];simp⟩;unfold yi;have e:(c3.toList.map a.eval).toArray=c3.map a.eval:=Array.ext' (by simp);rw[e] at ag an;cases ay:hC (e_ s bH) with
 |true=>exact .dF _ _ _ ag (aHG _ ay) an
 |false=>exact .fn _ _ _ ag an
theorem aDw(ak:ep w Γ s a.tmps){src dst:TypeId}{x:Operand}{y:aU}{k dk:IntKind}(aA:o.op=.convert src dst x)(hu:P.underlying src=some (.int dk))(aw:P.underlying dst=some (.int k))(aE:b4 x=some y)
 (h:u3 k (aP s y)=some v):hB P w Γ a o v:=by
 have ad:=d5 ak aE;unfold u3 at h;split at h
 . rename_i q n aG
   rw[aG] at ad;have ad:=kv ad;simp only[aW] at h;subst h;exact⟨_,.int _ _,fun w' _=>by simp[execOp,aA,convert,et hu,et aw,ad,Conv.intToInt]⟩
 . cases h
theorem aDv(ak:ep w Γ s a.tmps){src dst:TypeId}{x:Operand}{y:aU}(aA:o.op=.convert src dst x)(hu:P.underlying src=some .string)(aw:P.underlying dst=some .string)(aE:b4 x=some y)
 (h:zh (aP s y)=some v):hB P w Γ a o v:=by
 have ad:=d5 ak aE;unfold zh at h;split at h
 . rename_i b aG
   rw[aG] at ad;have ad:=r1 ad;simp only[aW] at h;subst h;exact⟨_,.str _,fun w' _=>by simp[execOp,aA,convert,et hu,et aw,ad]⟩
 . cases h
theorem aEz(ak:ep w Γ s a.tmps){x:Operand}{i:Nat}{y:aU}(aA:o.op=.extract x i)(aE:b4 x=some y)(h:xa (aP s y) i=some v):hB P w Γ a o v:=by
 have ad:=d5 ak aE;unfold xa at h;split at h
 . rename_i vs aq
   rw[aq] at ad;generalize d7:a.eval x=bj at ad;cases ad with
   |tuple _ bn ag an=>
    have bx:i<bn.size:=by rw[ag];exact(bo.1 h).1
    exact⟨_,an _ _ h,fun w' _=>by simp[execOp,aA,Instr.extract,d7,bx]⟩
 . cases h
theorem aPY(ak:ep w Γ s a.tmps){op:UnOp}{t:TypeId}{x:Operand}{y:aU}(aA:o.op=.unOp op t x)(aE:b4 x=some y)(h:wn op (aP s y)=some v):hB P w Γ a o v:=by
 have ad:=d5 ak aE;unfold wn at h;split at h
 . rename_i k n aG
   rw[aG] at ad;have ad:=kv ad;simp only[aW] at h;subst h;exact⟨_,.int _ _,fun w' _=>by simp[execOp,aA,Op.unary,ad,Op.intArith]⟩
 . rename_i k n aG
   rw[aG] at ad;have ad:=kv ad;simp only[ra,aW] at h;subst h;exact⟨_,.int _ _,fun w' _=>by simp[execOp,aA,Op.unary,ad,Op.intBits]⟩
 . rename_i b aG
   rw[aG] at ad;have ad:=qP ad rfl;simp only[aW] at h;subst h;exact⟨_,.bool _,fun w' _=>by simp[execOp,aA,Op.unary,ad]⟩
 . cases h
end
end Go.aL
namespace Go.aL
open Go.RowKit (Below)
section
variable{P:Program}{w:World}{Γ:Env}{M:Mem}{s:aI}{a:Act}{o:Oper}{v:V}
def A3(P:Program)(op:BinOp)(t:TypeId)(bj df r:Value):Prop:=
 ∀(w':World)(x y:Operand),(do eqGuard op t x y bj df;binOp op t bj df:Sem Value).run P w'=.ok r w'
theorem wO{α:Type}[BEq α][LawfulBEq α][DecidableEq α](x y:α):(x==y)=decide (x=y):=by
 rw[Bool.eq_iff_iff];simp
theorem tK(op:BinOp)(t:TypeId)(x y:Operand)(bj df:Value)(aa:¬(bj matches .nilIface))(af:¬(bj matches .agg _))(w':World):(eqGuard op t x y bj df).run P w'=.ok () w':=by
 cases op<;>cases bj<;>first|(exfalso;exact aa rfl)|(exfalso;exact af rfl)|(simp[eqGuard];done)|(cases df<;>simp[eqGuard])
theorem acm{op:BinOp}{t:TypeId}{k dk:IntKind}{x y:Int}{kC:iU}(h:dN op kC (.int k x) (.int dk y)=some v):∃r,bq w Γ v r/\A3 P op t (.int k x) (.int dk y) r:=by
 have g:∀(w':World)(p q:Operand),(eqGuard op t p q (.int k x) (.int dk y)).run P w'=.ok () w':=fun w' p q=>tK op t p q _ _ (by simp) (by simp) w';by_cases ao:k=dk
 . subst ao
   cases op
   case shl=>
    simp only[dN,oL] at h;cases aw:decide (y<0) with
    |true=>simp[aw] at h
    |false=>
     simp only[aw,cond_false,aW] at h;subst h;refine⟨_,.int _ _,fun w' p q=>?_⟩;have:¬y<0:=by simpa using aw
     simp[g,binOp,Op.shift,this]
   case shr=>
    simp only[dN,oL] at h;cases aw:decide (y<0) with
    |true=>simp[aw] at h
    |false=>
     simp only[aw,cond_false,aW] at h;subst h;refine⟨_,.int _ _,fun w' p q=>?_⟩;have:¬y<0:=by simpa using aw
     simp[g,binOp,Op.shift,this]
   case quo=>
    simp only[dN,k3,decide_true,cond_true] at h;cases aw:decide (y=0) with
    |true=>simp[aw] at h
    |false=>
     simp only[aw,cond_false,aW] at h;subst h;refine⟨_,.int _ _,fun w' p q=>?_⟩;have:¬y=0:=by simpa using aw
     simp[g,binOp,Op.intDiv,this]
   case rem=>
    simp only[dN,k3,decide_true,cond_true] at h;cases aw:decide (y=0) with
    |true=>simp[aw] at h
    |false=>
     simp only[aw,cond_false,aW] at h;subst h;refine⟨_,.int _ _,fun w' p q=>?_⟩;have:¬y=0:=by simpa using aw
     simp[g,binOp,Op.intDiv,this]
   case eql=>
    simp only[dN,k3,decide_true,cond_true,aW] at h;subst h;exact⟨_,.bool _,fun w' p q=>by simp[g,binOp,Op.intCmp,wO]⟩
   case neq=>
    simp only[dN,k3,decide_true,cond_true,aW] at h;subst h;exact⟨_,.bool _,fun w' p q=>by simp[g,binOp,Op.intCmp,bne,wO]⟩
   all_goals
    simp only[dN,k3,ra,decide_true,cond_true,aW] at h;subst h;first
     |exact⟨_,.bool _,fun w' p q=>by simp[g,binOp,Op.intCmp]⟩
     |exact⟨_,.int _ _,fun w' p q=>by simp[g,binOp,Op.intArith,Op.intBits]⟩
 . cases op
   case shl=>
    simp only[dN,oL] at h;cases aw:decide (y<0) with
    |true=>simp[aw] at h
    |false=>
     simp only[aw,cond_false,aW] at h;subst h;refine⟨_,.int _ _,fun w' p q=>?_⟩;have:¬y<0:=by simpa using aw
     simp[g,binOp,Op.shift,this]
   case shr=>
    simp only[dN,oL] at h;cases aw:decide (y<0) with
    |true=>simp[aw] at h
    |false=>
     simp only[aw,cond_false,aW] at h;subst h;refine⟨_,.int _ _,fun w' p q=>?_⟩;have:¬y<0:=by simpa using aw
     simp[g,binOp,Op.shift,this]
   all_goals simp[dN,ao] at h
theorem acv{op:BinOp}{t:TypeId}{x y:List UInt8}{kC:iU}(h:dN op kC (.str x) (.str y)=some v):∃r,bq w Γ v r/\A3 P op t (.string ⟨x.toArray⟩) (.string ⟨y.toArray⟩) r:=by
 have g:∀(w':World)(p q:Operand),(eqGuard op t p q (.string ⟨x.toArray⟩) (.string ⟨y.toArray⟩)).run P w'=.ok () w':=fun w' p q=>tK op t p q _ _ (by simp) (by simp) w';simp only[dN] at h;cases op<;>simp only[QJ,aW,reduceCtorEq] at h
 case add=>
  obtain⟨aw,rfl⟩:=fg h;have hle:((x.length+y.length:Nat):Int)<=9223372036854775807:=by simpa using aw
  refine⟨.string ⟨(x++y).toArray⟩,.str _,fun w' p q=>?_⟩;have e:(sh x.toArray)++(sh y.toArray)=⟨(x++y).toArray⟩:=by
   apply ByteArray.ext;simp
  have e3:((sh x.toArray).size:Int)+((sh y.toArray).size:Int)<=9223372036854775807:=by
   simp only[ByteArray.size];simp;omega
  simp[g,binOp,Op.stringOp,e,e3]
 all_goals
  subst h;exact⟨_,.bool _,fun w' p q=>by simp[g,binOp,Op.stringOp,wO]⟩
theorem w6(t:TypeId)(x y:Value)(w':World):(Op.equal t x y).run P w'=(Op.equalIn (9999+1) t x y).run P w':=rfl
theorem w5{op:BinOp}{t:TypeId}{bj df:Value}{b:Bool}(hb:op=.eql∨op=.neq)
 (aB:∀(w':World)(p q:Operand),(eqGuard op t p q bj df).run P w'=.ok () w')(he:∀w':World,(Op.equalIn (9999+1) t bj df).run P w'=.ok b w')
 (aj:binOp .eql t bj df=(do pure (.bool (<-Op.equal t bj df))))(mz:binOp .neq t bj df=(do pure (.bool (!(<-Op.equal t bj df))))):
 A3 P op t bj df (.bool (if op=.eql then b else !b)):=fun w' p q=>by
 rcases hb with rfl|rfl
 . rw[aj];simp[aB,w6,he]
 . rw[mz];simp[aB,w6,he]
theorem TT(op:BinOp)(t:TypeId)(x y:Operand)(xs bH:Array Value)(hm:P.eqGuardType P.depth t=false)(w':World):(eqGuard op t x y (.agg xs) (.agg bH)).run P w'=.ok () w':=by
 cases op<;>simp[eqGuard,hm]
theorem NW{f:TypeId}{c:fE}(aD:mh P f=some c){x y:V}{bj df:Value}(ad:bq w Γ x bj)(aE:bq w Γ y df){b:Bool}(h:hE c x y=some b)(d:Nat)(w':World):(Op.equalIn (d+1) f bj df).run P w'=.ok b w':=by
 unfold hE at h;split at h
 . rename_i k m dk n
   obtain⟨ao,rfl⟩:=fg h;have ao:k=dk:=by simpa using ao
   subst ao;have ad:=kv ad;have aE:=kv aE;subst ad aE;unfold mh at aD;split at aD<;>simp only[aW,reduceCtorEq] at aD;rename_i hu;rw[run_equalIn_int w' d f k _ m n hu,wO]
 . rename_i m n
   simp only[aW] at h;subst h;have ad:=qP ad rfl;have aE:=qP aE rfl;subst ad aE;unfold mh at aD;split at aD<;>simp only[aW,reduceCtorEq] at aD;rename_i hu;rw[run_equalIn_bool' w' d f m n hu,wO]
 . rename_i m n
   simp only[aW] at h;subst h;have ad:=r1 ad;have aE:=r1 aE;subst ad aE;unfold mh at aD;split at aD<;>simp only[aW,reduceCtorEq] at aD;rename_i hu;rw[run_equalIn_string w' d f _ _ hu];simp[wO]
 . cases h
theorem sZ{t:TypeId}(a9:kg P t=some false){xs:List V}{cs:Array Value}(an:ek w Γ xs cs){n:Nat}{x:V}(ad:xs[n]? =some x)(w':World):(part t cs n).run P w'=.ok (cs.getD n Go.undef) w':=by
 have bx:n<cs.size:=by rw[an.1];exact(bo.1 ad).1
 simp[part,vW a9,bx]
theorem wX{c:fE}{cs:List fE}{xs bH:List V}{b:Bool}(h:gG (c::cs) xs bH=some b):
 ∃x n2 y nk c2 dw,xs=x::n2/\bH=y::nk/\hE c x y=some c2/\gG cs n2 nk=some dw/\b=(c2&&dw):=by
 unfold gG at h;split at h
 . rename_i heq;cases heq
 . rename_i cK aDy x n2 y nk heq
   cases heq;split at h
   . rename_i c2 dw aa af
     simp only[aW] at h;exact⟨_,_,_,_,c2,dw,rfl,rfl,aa,af,h.symm⟩
   . cases h
 . cases h
theorem Mb(d:Nat){xs bH:List V}{bj df:Array Value}(ad:ek w Γ xs bj)(aE:ek w Γ bH df)(w':World):∀(bR:List Field)(n:Nat)(cA:List fE)(b:Bool),s9 P n bR=some cA->gG cA (xs.drop n) (bH.drop n)=some b->
 (Op.eqFields (d+1) bj df bR).run P w'=.ok b w'
 |[],n,cA,b,aD,h=>by
  simp only[s9,aW] at aD;subst aD;simp only[gG,aW] at h;subst h;simp[Op.eqFields]
 |f::bR,n,cA,b,aD,h=>by
  simp only[s9] at aD;split at aD
  . rename_i k oz ao hI pi
    split at aD<;>simp only[aW,reduceCtorEq] at aD;rename_i ps;simp only[cc,bne_iff_ne,ne_eq,beq_iff_eq] at ps;subst aD;obtain⟨x,n2,y,nk,c2,dw,a4,bd,aa,af,rfl⟩:=wX h;have aT:xs[n]? =some x:=by have:=congrArg (·[0]?) a4;simpa using this
    have a2:bH[n]? =some y:=by have:=congrArg (·[0]?) bd;simpa using this
    have d1:xs.drop (n+1)=n2:=by have:=congrArg (List.drop 1) a4;simpa[Nat.add_comm] using this
    have d2:bH.drop (n+1)=nk:=by have:=congrArg (List.drop 1) bd;simpa[Nat.add_comm] using this
    have bu:=Mb d ad aE w' bR (n+1) oz dw pi (by rw[d1,d2];exact af);have i7:=NW ao (ad.2 _ _ aT) (aE.2 _ _ a2) aa d w';simp only[Op.eqFields,ps,ne_eq,not_false_eq_true,if_true,Sem.run_bind,sZ hI ad aT,sZ hI aE a2,Result.andThen_ok,i7,Sem.run_ite,bu];cases c2<;>simp
  . cases aD
theorem aEg{t:TypeId}{bR:Array Field}(hu:P.underlying t=some (.struct bR))(ay:P.stoodInHeld t=false){cA:List fE}(aD:s9 P 0 bR.toList=some cA){xs bH:List V}{bj df:Array Value}(ad:ek w Γ xs bj)(aE:ek w Γ bH df)
 {b:Bool}(h:gG cA xs bH=some b)(w':World):(Op.equalIn (9999+1) t (.agg bj) (.agg df)).run P w'=.ok b w':=by
 have e:P.fieldsOf t=bR:=by simp[Program.fieldsOf,hu]
 rw[run_equalIn_struct w' 9999 t bj df (by rw[e];exact hu) ay,e];exact Mb 9998 ad aE w' bR.toList 0 cA b aD (by simpa using h)
theorem R1{e:TypeId}{k:fE}(ao:mh P e=some k)(hI:kg P e=some false)(d:Nat){xs bH:List V}{bj df:Array Value}(ad:ek w Γ xs bj)(aE:ek w Γ bH df)(w':World):
 ∀(m n:Nat)(b:Bool),gG (f_ m k) (xs.drop n) (bH.drop n)=some b->
 ((forIn (List.range' n m) ((none,()):Option Bool×Unit) fun i r=>do
    if !(<-Op.equalIn (d+1) e (<-part e bj (i*1)) (<-part e df (i*1))) then pure (ForInStep.done (some false,()))
    else pure (ForInStep.yield (none,())):Sem (Option Bool×Unit))).run P w'=.ok (if b then(none,()) else(some false,())) w'
 |0,n,b,h=>by
  simp only[List.replicate_zero,gG,aW] at h;subst h;simp
 |m+1,n,b,h=>by
  obtain⟨x,n2,y,nk,c2,dw,a4,bd,aa,af,rfl⟩:=wX (by rw[<-List.replicate_succ];exact h);have aT:xs[n]? =some x:=by have:=congrArg (·[0]?) a4;simpa using this
  have a2:bH[n]? =some y:=by have:=congrArg (·[0]?) bd;simpa using this
  have d1:xs.drop (n+1)=n2:=by have:=congrArg (List.drop 1) a4;simpa[Nat.add_comm] using this
  have d2:bH.drop (n+1)=nk:=by have:=congrArg (List.drop 1) bd;simpa[Nat.add_comm] using this
  have bu:=R1 ao hI d ad aE w' m (n+1) dw (by rw[d1,d2];exact af);have i7:=NW ao (ad.2 _ _ aT) (aE.2 _ _ a2) aa d w';rw[List.range'_succ,List.forIn_cons];simp only[Sem.run_bind,kY,sZ hI ad aT,sZ hI aE a2,Result.andThen_ok,i7,Sem.run_ite];cases c2
  . simp
  . simpa using bu
theorem aEf(d:Nat){t e:TypeId}{len:Nat}(hu:P.underlying t=some (.array len e)){k:fE}(ao:mh P e=some k)(hI:kg P e=some false)(aK:e7 P e=some 1){xs bH:List V}{bj df:Array Value}(ad:ek w Γ xs bj)(aE:ek w Γ bH df)
 {b:Bool}(h:gG (f_ len k) xs bH=some b)(w':World):(Op.equalIn (d+1+1) t (.agg bj) (.agg df)).run P w'=.ok b w':=by
 have:=R1 ao hI d ad aE w' len 0 b (by simpa using h);rw[Op.equalIn];simp only[Sem.run_bind,et hu,Result.andThen_ok,g6 aK];rw[Std.Legacy.Range.forIn_eq_forIn_range'];have fY:[:len].size=len:=by simp[Std.Legacy.Range.size]
 rw[fY];show((Sem.run P (forIn (List.range' 0 len) (none,()) _) w').andThen _)=_;rw[this];cases b<;>simp
theorem R0{t e:TypeId}{len:Nat}(hu:P.underlying t=some (.array len e)){k:fE}(ao:mh P e=some k)(hI:kg P e=some false)(aK:e7 P e=some 1){xs bH:List V}{bj df:Array Value}(ad:ek w Γ xs bj)(aE:ek w Γ bH df)
 {b:Bool}(h:gG (f_ len k) xs bH=some b)(w':World):(Op.equalIn (9999+1) t (.agg bj) (.agg df)).run P w'=.ok b w':=aEf 9998 hu ao hI aK ad aE h w'
theorem Og{r:List (List V)}{bj:Value}(ad:bq w Γ (.slice r .nil) bj):bj=.slice none 0 0:=by
 cases ad with
 |iO=>rfl
 |lR _ ar=>exact absurd rfl ar
 |slice _ _ b o sz cap bn ar=>exact absurd rfl ar
theorem Oi{r:List (List V)}{c:c4}{bj:Value}(ad:bq w Γ (.slice r c) bj)(h:c=.full∨c=.any∨r≠[]):∃p n d,bj=.slice (some p) n d:=by
 cases ad with
 |iO _ ar=>
  rcases h with h|h|h
  . subst h;simp at ar
  . subst h;simp at ar
  . exact absurd rfl h
 |lR=>exact⟨_,_,_,rfl⟩
 |slice _ _ b o sz cap bn ar=>exact⟨_,_,_,rfl⟩
theorem Xd{y:V}{df:Value}(aE:bq w Γ y df){b:Bool}(h:iO y=some b):∃p n c,df=.slice p n c/\p.isNone=b:=by
 unfold iO at h;split at h<;>simp only[aW,reduceCtorEq] at h<;>subst h
 . exact⟨_,_,_,Og aE,rfl⟩
 . obtain⟨p,n,d,e⟩:=Oi aE (.inl rfl);exact⟨_,_,_,e,rfl⟩
 . obtain⟨p,n,d,e⟩:=Oi aE (.inr (.inl rfl));exact⟨_,_,_,e,rfl⟩
 . obtain⟨p,n,d,e⟩:=Oi aE (.inr (.inr (by simp)));exact⟨_,_,_,e,rfl⟩
theorem RZ{t:TypeId}{x y:V}{bj df:Value}(ad:bq w Γ x bj)(aE:bq w Γ y df){b:Bool}(h:lG x y (zn P t)=some b){op:BinOp}(hb:op=.eql∨op=.neq):
 A3 P op t bj df (.bool (if op=.eql then b else !b)):=by
 unfold zn at h;split at h
 . rename_i hu
   simp only[lG] at h;split at h<;>simp only[aW,reduceCtorEq] at h;rename_i m n;subst h;have ad:=qP ad rfl;have aE:=qP aE rfl;subst ad aE;refine w5 hb (fun w' p q=>tK op t p q _ _ (by simp) (by simp) w') (fun w'=>?_) rfl rfl;rw[run_equalIn_bool' w' 9999 t m n hu,wO]
 . rename_i e hu
   simp only[lG] at h;have key:∀w':World,(Op.equalIn (9999+1) t bj df).run P w'=.ok b w':=by
    intro w';split at h<;>simp only[aW,reduceCtorEq] at h<;>subst h<;>cases ad<;>cases aE<;>(rw[Op.equalIn];simp[et hu])
   refine w5 hb (fun w' p q=>tK op t p q _ _ ?_ ?_ w') key ?_ ?_;all_goals (split at h<;>simp only[aW,reduceCtorEq] at h<;>cases ad<;>cases aE<;>first|rfl|simp)
 . rename_i e hu
   simp only[lG] at h;have aq:∃p n c q m d,bj=.slice p n c/\df=.slice q m d/\((p=none/\b=q.isNone)∨(q=none/\b=p.isNone)):=by
    split at h
    . obtain⟨q,m,d,a4,bd⟩:=Xd aE h
      exact⟨none,0,0,q,m,d,Og ad,a4,.inl ⟨rfl,bd.symm⟩⟩
    . obtain⟨q,m,d,a4,bd⟩:=Xd ad h
      exact⟨q,m,d,none,0,0,a4,Og aE,.inr ⟨rfl,bd.symm⟩⟩
    . cases h
   obtain⟨p,n,c,q,m,d,rfl,rfl,aj⟩:=aq;refine w5 hb (fun w' p q=>tK op t p q _ _ (by simp) (by simp) w') (fun w'=>?_) rfl rfl;rw[Op.equalIn];rcases aj with⟨rfl,rfl⟩|⟨rfl,rfl⟩
   . simp[et hu]
   . cases p<;>simp[et hu]
 . rename_i k e hu
   simp only[lG] at h;have key:∀w':World,(Op.equalIn (9999+1) t bj df).run P w'=.ok b w':=by
    intro w';split at h<;>simp only[aW,reduceCtorEq] at h<;>subst h<;>cases ad<;>cases aE<;>(rw[Op.equalIn];simp[et hu])
   refine w5 hb (fun w' p q=>tK op t p q _ _ ?_ ?_ w') key ?_ ?_;all_goals (split at h<;>simp only[aW,reduceCtorEq] at h<;>cases ad<;>cases aE<;>first|rfl|simp)
 . rename_i cX rs yN hu
   simp only[lG] at h;have key:∀w':World,(Op.equalIn (9999+1) t bj df).run P w'=.ok b w':=by
    intro w';split at h<;>simp only[aW,reduceCtorEq] at h<;>subst h<;>cases ad<;>cases aE<;>(rw[Op.equalIn];simp[et hu])
   refine w5 hb (fun w' p q=>tK op t p q _ _ ?_ ?_ w') key ?_ ?_;all_goals (split at h<;>simp only[aW,reduceCtorEq] at h<;>cases ad<;>cases aE<;>first|rfl|simp)
 . rename_i bR hu
   split at h
   . rename_i cA zQ
     split at h
     . rename_i ar
       simp only[cc,lV] at ar;simp only[lG] at h;split at h
       . cases ad with
         |agg _ bj t0 pA=>
          cases aE with
          |agg _ df xC qr=>exact w5 hb (fun w' p q=>TT op t p q _ _ ar.2 w') (fun w'=>aEg hu ar.1 zQ ⟨t0,pA⟩ ⟨xC,qr⟩ h w') rfl rfl
       . cases h
     . simp[lG] at h
   . simp[lG] at h
 . rename_i n e hu
   split at h
   . rename_i k ao hI
     split at h
     . rename_i ar
       simp only[cc,lV,beq_iff_eq] at ar;simp only[lG] at h;split at h
       . cases ad with
         |agg _ bj t0 pA=>
          cases aE with
          |agg _ df xC qr=>exact w5 hb (fun w' p q=>TT op t p q _ _ ar.2 w') (fun w'=>R0 hu ao hI ar.1 ⟨t0,pA⟩ ⟨xC,qr⟩ h w') rfl rfl
       . cases h
     . simp[lG] at h
   . simp[lG] at h
 . simp[lG] at h
end
end Go.aL
namespace Go.aL
open Go.RowKit (Below)
section
variable{P:Program}{w:World}{Γ:Env}{M:Mem}{s:aI}{a:Act}{o:Oper}{v:V}
theorem aca{op:BinOp}{kC:iU}{x y:V}(aa:∀k n dk m,¬(x=.int k n/\y=.int dk m))(af:∀l m,¬(x=.str l/\y=.str m)):
 dN op kC x y=(match op with|.eql=>(lG x y kC).map .bool|.neq=>(lG x y kC).map fun b=>.bool !b|_=>none):=by
 unfold dN;split
 . exact absurd ⟨rfl,rfl⟩ (aa _ _ _ _)
 . exact absurd ⟨rfl,rfl⟩ (af _ _)
 . cases op<;>rfl
theorem acr(ak:ep w Γ s a.tmps){op:BinOp}{t hy:TypeId}{x y:Operand}{dh hh:aU}(aA:o.op=.binOp op t x y hy)(ad:b4 x=some dh)(aE:b4 y=some hh)
 (h:dN op (zn P t) (aP s dh) (aP s hh)=some v):hB P w Γ a o v:=by
 have rx:=d5 ak ad;have hV:=d5 ak aE
 suffices an:∃r,bq w Γ v r/\A3 P op t (a.eval x) (a.eval y) r by
  obtain⟨r,aa,af⟩:=an;refine⟨r,aa,fun w' _=>?_⟩;have:=af w' x y;simp only[execOp,aA,Sem.run_bind] at this⊢;rw[this];simp
 generalize a.eval x=bj at rx;generalize a.eval y=df at hV;generalize aP s dh=p at*;generalize aP s hh=q at*;by_cases aa:∃k n dk m,p=.int k n/\q=.int dk m
 . obtain⟨k,n,dk,m,rfl,rfl⟩:=aa
   have:=kv rx;have:=kv hV
   subst_vars
   exact acm h
 by_cases af:∃l m,p=.str l/\q=.str m
 . obtain⟨l,m,rfl,rfl⟩:=af
   have:=r1 rx;have:=r1 hV
   subst_vars
   exact acv h
 rw[aca (fun k n dk m cn=>aa ⟨k,n,dk,m,cn⟩) (fun l m cn=>af ⟨l,m,cn⟩)] at h;cases op<;>simp only[reduceCtorEq] at h
 . cases he:lG p q (zn P t) with
   |none=>simp[he] at h
   |some b=>
    simp only[he,lY,aW] at h;subst h;exact⟨_,.bool _,by simpa using RZ rx hV he (.inl rfl)⟩
 . cases he:lG p q (zn P t) with
   |none=>simp[he] at h
   |some b=>
    simp only[he,lY,aW] at h;subst h;exact⟨_,.bool _,by simpa using RZ rx hV he (.inr rfl)⟩
theorem V2(ak:ep w Γ s a.tmps){mx:Bool}{x y:Operand}{dh hh:aU}{iP:Array TypeId}(aA:o.op=.call ⟨.builtin (if mx then .max else .min),#[x,y],iP⟩) (ad:b4 x=some dh) (aE:b4 y=some hh)
 (h:sU mx (aP s dh) (aP s hh)=some v):hB P w Γ a o v:=by
 have rx:=d5 ak ad;have hV:=d5 ak aE;unfold sU at h;split at h
 . rename_i k m dk n a4 bd
   rw[a4] at rx;rw[bd] at hV;have rx:=kv rx;have hV:=kv hV;cases ao:decide (k=dk) with
   |false=>simp[ao] at h
   |true=>
    simp only[ao,cond_true] at h;cases mx with
    |true=>
     simp only[aW] at h;subst h;exact⟨_,.int _ _,fun w' _=>by simp[execOp,aA,resolve,invoke,builtin,rx,hV,Builtin.max_,Builtin.max2]⟩
    |false=>
     simp only[aW] at h;subst h;exact⟨_,.int _ _,fun w' _=>by simp[execOp,aA,resolve,invoke,builtin,rx,hV,Builtin.min_,Builtin.min2]⟩
 . cases h
theorem aLw(aB:Good w Γ M)(ak:ep w Γ s a.tmps){x:Operand}{dh:aU}{t e:TypeId}(aA:o.op=.call ⟨.builtin .len,#[x],#[t]⟩) (hu:P.underlying t=some (.slice e)) (ad:b4 x=some dh)
 (h:iA (aP s dh) M=some v):hB P w Γ a o v:=by
 have rx:=d5 ak ad;have key:∀p n c,a.eval x=.slice p n c->v=.int .i64 n->hB P w Γ a o v:=fun p n c ar aq=>by
  subst aq;exact⟨_,.int _ _,fun w' _=>by simp[execOp,aA,resolve,invoke,builtin,ar,Builtin.len_,et hu,goInt]⟩
 unfold iA at h;split at h
 . rename_i rows c an
   simp only[aW] at h;subst h;rw[an] at rx;generalize ar:a.eval x=bj at rx;cases rx with
   |iO=>exact key _ _ _ ar rfl
   |lR=>exact key _ _ _ ar rfl
   |slice=>exact key _ _ _ ar rfl
 . rename_i id ver start len an
   rw[an] at rx;split at h
   . rename_i z rows hX fz a7
     obtain⟨aj,rfl⟩:=fg h;have aj:hX=ver:=by simpa using aj
     generalize ar:a.eval x=bj at rx;cases rx with
     |aZ _ _ _ _ l ag hL _ eA _=>
      obtain⟨aa,a8,af,_⟩:=aB.eL id l _ ag a7;rcases eA (by rw[af,aj]) with⟨_,rfl,rfl⟩|⟨_,_,of,ie,rfl,_,_,_⟩
      . exact key _ _ _ ar rfl
      . exact key _ _ _ ar rfl
   . rename_i cells hX a7
     obtain⟨aj,rfl⟩:=fg h;have aj:hX=ver:=by simpa using aj
     generalize ar:a.eval x=bj at rx;cases rx with
     |aZ _ _ _ _ l ag hL _ eA _=>
      obtain⟨aa,a8,af,_⟩:=aB.eL id l _ ag a7;rcases eA (by rw[af,aj]) with⟨_,rfl,rfl⟩|⟨_,_,of,ie,rfl,_,_,_⟩
      . exact key _ _ _ ar rfl
      . exact key _ _ _ ar rfl
   . cases h
 . cases h
theorem aLy(ak:ep w Γ s a.tmps){x:Operand}{dh:aU}{t:TypeId}(aA:o.op=.call ⟨.builtin .len,#[x],#[t]⟩) (hu:P.underlying t=some .string) (ad:b4 x=some dh)
 (h:x5 (aP s dh)=some v):hB P w Γ a o v:=by
 have rx:=d5 ak ad;unfold x5 at h;split at h
 . rename_i b aj
   rw[aj] at rx;have rx:=r1 rx;simp only[aW] at h;subst h;have e:(sh b.toArray).size=b.length:=by show b.toArray.size=_;simp
   exact⟨_,.int _ _,fun w' _=>by simp[execOp,aA,resolve,invoke,builtin,rx,Builtin.len_,et hu,goInt,e]⟩
 . cases h
theorem Vw{x:Operand}{t e:TypeId}{n:Nat}(aA:o.op=.call ⟨.builtin .len,#[x],#[t]⟩)
 (hu:P.underlying t=some (.array n e)∨∃hy,P.underlying t=some (.pointer hy)/\P.underlying hy=some (.array n e)):hB P w Γ a o (.int .i64 n):=by
 refine⟨_,.int _ _,fun w' _=>?_⟩;rcases hu with hu|⟨hy,hu,ot⟩
 . simp[execOp,aA,resolve,invoke,builtin,Builtin.len_,et hu,goInt]
 . simp[execOp,aA,resolve,invoke,builtin,Builtin.len_,et hu,et ot,goInt]
theorem aO5{k:IntKind}{i:Int}{y:Nat}(a8:0<=i)(aa:i.toNat<=y)(aDs:BoundsCode)(w':World):(Instr.sliceBound (.int k i) y aDs).run P w'=.ok i.toNat w':=by
 have:i<=(y:Int):=by omega
 simp[Instr.sliceBound,asIntOf,a8,this]
theorem LA{d n:Nat}{x:Option V}(h:iG d x=some n):(x=none/\n=d)∨∃k i,x=some (.int k i)/\0<=i/\n=i.toNat:=by
 unfold iG at h;split at h
 . simp only[aW] at h;exact .inl ⟨rfl,h.symm⟩
 . obtain⟨aw,rfl⟩:=fg h
   exact .inr ⟨_,_,rfl,by simpa using aw,rfl⟩
 . cases h
theorem J4(ak:ep w Γ s a.tmps){x:Option Operand}{y:Option aU}(h:hS x=some y){d n:Nat}(aj:iG d (eM s y)=some n):
 (x=none/\n=d)∨∃dh k i,x=some dh/\a.eval dh=.int k i/\0<=i/\n=i.toNat:=by
 cases x with
 |none=>
  simp only[hS,aW] at h;subst h;rcases LA aj with⟨_,e⟩|⟨k,i,e,_⟩
  . exact .inl ⟨rfl,e⟩
  . simp[eM] at e
 |some dh=>
  simp only[hS,dK] at h;obtain⟨hh,aE,rfl⟩:=h;rcases LA aj with⟨e,_⟩|⟨k,i,e,a8,bd⟩
  . simp[eM] at e
  . simp only[eM,aW] at e
    have:=d5 ak aE;rw[e] at this;exact .inr ⟨dh,k,i,rfl,kv this,a8,bd⟩
theorem wh(ak:ep w Γ s a.tmps){lo hi mx:Option Operand}{lo' hi' mx':Option aU}(gQ:hS lo=some lo')(eD:hS hi=some hi')(jq:hS mx=some mx')(pq:mx=none∨hi≠none)
 {b:Bool}{len cap l h m:Nat}(a4:iG 0 (eM s lo')=some l)(bd:iG len (eM s hi')=some h)(e3:iG cap (eM s mx')=some m)(aa:l<=h)(af:h<=m)(az:m<=cap)(w':World):
 (Instr.sliceBounds b len cap (lo.map a.eval) (hi.map a.eval) (mx.map a.eval)).run P w'=.ok (l,h,m) w':=by
 rcases J4 ak jq e3 with⟨rfl,rfl⟩|⟨aQN,dS,aKF,rfl,EP,sY,rfl⟩<;>rcases J4 ak eD bd with⟨rfl,rfl⟩|⟨KP,ce,aKE,rfl,j7,f8,rfl⟩<;>rcases J4 ak gQ a4 with⟨rfl,rfl⟩|⟨h6,bI,ox,rfl,nj,iN,rfl⟩
 all_goals first
  |(exfalso;rcases pq with pq|pq<;>simp at pq;done)
  |simp[Instr.sliceBounds, *,aO5]
theorem aO8(ak:ep w Γ s a.tmps){t:TypeId}{x:Operand}{lo hi:Option Operand}{dh:aU}{lo' hi':Option aU}(aA:o.op=.slice t x lo hi none)(hu:P.underlying t=some .string)(ad:b4 x=some dh)
 (gQ:hS lo=some lo')(eD:hS hi=some hi')(h:AP (aP s dh) (eM s lo') (eM s hi')=some v):hB P w Γ a o v:=by
 have rx:=d5 ak ad;unfold AP at h;split at h
 . rename_i b aj
   rw[aj] at rx;have rx:=r1 rx;split at h
   . rename_i l cn a4 bd
     obtain⟨aw,rfl⟩:=fg h;simp only[cc,decide_eq_true_eq] at aw;have aEh:(sh b.toArray).size=b.length:=by show b.toArray.size=_;simp
     refine⟨_,.str _,fun w' _=>?_⟩;have cw:=wh (P:=P) (b:=false) ak gQ eD (mx:=none) (mx':=none) rfl (.inl rfl) a4 bd (e3:=(rfl:iG b.length (eM s none)=some b.length)) aw.1 aw.2 (cH _) w';have hex:(sh b.toArray).extract l cn=⟨((b.drop l).take (cn -l)).toArray⟩:=by
      apply ByteArray.ext;simp[ByteArray.data_extract]
     simp only[Option.map_none] at cw;simp[execOp,aA,Instr.sliceAt,Instr.slice,et hu,rx,aEh,cw,hex]
   . cases h
 . cases h
theorem M3{n:Nat}{rows:List (List V)}(h:fr n rows=true){sz:Nat}(fT:∀(i:Nat)(r:List V),rows[i]? =some r->r.length=sz):rows=[]∨sz=n:=by
 cases rows with
 |nil=>exact .inl rfl
 |cons r rs=>
  have aa:=fT 0 r rfl;simp only[fr,beq_iff_eq] at h;exact .inr (by omega)
theorem Xg(aB:Good w Γ M)(ak:ep w Γ s a.tmps){t e:TypeId}{n:Nat}{x:Operand}{lo hi mx:Option Operand}{dh:aU}{lo' hi' mx':Option aU}(aA:o.op=.slice t x lo hi mx)(hu:P.underlying t=some (.slice e))(aK:e7 P e=some n)
 (ad:b4 x=some dh)(gQ:hS lo=some lo')(eD:hS hi=some hi')(jq:hS mx=some mx')(pq:mx=none∨hi≠none)
 (h:hf n (aP s dh) (eM s lo') (eM s hi') (eM s mx') M=some v):hB P w Γ a o v:=by
 have rx:=d5 ak ad;unfold hf at h;split at h
 . rename_i rows c an
   rw[an] at rx;split at h
   . rename_i l cn m a4 bd e3
     obtain⟨aw,rfl⟩:=fg h;simp only[cc,decide_eq_true_eq] at aw;obtain⟨⟨⟨i9,HS⟩,pm⟩,HV⟩:=aw;generalize d7:a.eval x=bj at rx;cases rx with
     |iO _ ar=>
      have m3:m=0:=by simpa using HV
      have vp:cn=0:=by omega
      have Dg:l=0:=by omega
      subst m3 vp Dg;have cw:∀w',(Instr.sliceBounds true 0 0 (lo.map a.eval) (hi.map a.eval) (mx.map a.eval)).run P w'=.ok (0,0,0) w':=fun w'=>wh (P:=P) (b:=true) ak gQ eD jq pq a4 bd e3 (cH _) (cH _) (cH _) w';refine⟨.slice none 0 0,?_,fun w' _=>by simp[execOp,aA,Instr.sliceAt,Instr.slice,et hu,d7,cw,g6 aK]⟩;have:∀q,ns c 0 0 ([]:List (List V)).length q=c:=by
       intro q;rcases ar with rfl|rfl<;>rfl
      rw[this];simp only[List.drop_nil,List.take_nil];exact .iO c ar
     |lR _ ar p=>
      have m3:m=0:=by simpa using HV
      have vp:cn=0:=by omega
      have Dg:l=0:=by omega
      subst m3 vp Dg;have cw:∀w',(Instr.sliceBounds true 0 0 (lo.map a.eval) (hi.map a.eval) (mx.map a.eval)).run P w'=.ok (0,0,0) w':=fun w'=>wh (P:=P) (b:=true) ak gQ eD jq pq a4 bd e3 (cH _) (cH _) (cH _) w';refine⟨.slice (some p) 0 0,?_,fun w' _=>by simp[execOp,aA,Instr.sliceAt,Instr.slice,et hu,d7,cw,g6 aK]⟩;simp only[List.drop_nil,List.take_nil];refine .lR _ (fun a8=>?_) p;cases c<;>simp[ns] at a8 ar;all_goals (cases mx'<;>simp[eM] at a8)
     |slice _ _ b of sz cap bn ar aD f7 fT bl dO ay f0=>
      have cw:∀w',∃e6,(Instr.sliceBounds true rows.length cap (lo.map a.eval) (hi.map a.eval) (mx.map a.eval)).run P w'=.ok (l,cn,e6) w'/\cn<=e6/\(mx=none->e6=cap)/\(mx≠none->e6=m):=fun w'=>by
       rcases J4 ak jq e3 with⟨rfl,_⟩|⟨aQN,dS,aKF,rfl,EP,sY,aRf⟩
       . simp only[hS,aW] at jq
         subst jq;exact⟨cap,wh (P:=P) (b:=true) ak gQ eD rfl pq a4 bd (e3:=rfl) HS (by omega) (cH _) w',by omega,fun _=>rfl,fun cD=>absurd rfl cD⟩
       . have aD1:iG cap (eM s mx')=some m:=by
          rcases LA e3 with⟨aD8,_⟩|⟨k,i,es,a8,l4⟩
          . simp only[hS,dK] at jq
            obtain⟨y,_,rfl⟩:=jq;simp[eM] at aD8
          . rw[es];simp[iG,a8,l4]
         exact⟨m,wh (P:=P) (b:=true) ak gQ eD jq pq a4 bd aD1 HS pm (by omega) w',pm,fun aJz=>(by cases aJz),fun _=>rfl⟩
      obtain⟨e6,aRM,oh,qm,UJ⟩:=cw w;have xN:∀w',(Instr.sliceBounds true rows.length cap (lo.map a.eval) (hi.map a.eval) (mx.map a.eval)).run P w'=.ok (l,cn,e6) w':=fun w'=>by
       obtain⟨aMa,aa,_,af,az⟩:=cw w';have:aMa=e6:=by
        by_cases zT:mx=none
        . rw[af zT,qm zT]
        . rw[az zT,UJ zT]
       rw[<-this];exact aa
      have hlen:((rows.drop l).take (cn -l)).length=cn -l:=by simp;omega
      refine⟨.slice (some ⟨b,if e6=l then of else of+l*n,none⟩) (cn -l) (e6 -l),?_,fun w' _=>?_⟩
      . have aHT:∀cK,cK≠.nil->(cK=.full->e6 -l=cn -l)->bq w Γ (.slice ((rows.drop l).take (cn -l)) cK) (.slice (some ⟨b,if e6=l then of else of+l*n,none⟩) (cn -l) (e6 -l)):=fun cK tN MQ=>by
         have:=bq.slice (w:=w) (Γ:=Γ) ((rows.drop l).take (cn -l)) cK b (if e6=l then of else of+l*n) sz (e6 -l) (fun i j=>bn (l+i) j) tN (by rw[hlen];exact MQ) (by rw[hlen];omega)
          (fun i r hi=>by
            have hi':i<cn -l:=by rw[<-hlen];exact(bo.1 hi).1
            rw[hA hi',kW] at hi;exact fT _ _ hi)
          (fun i j hi ap=>by
            rw[hlen] at hi;have cD:rows≠[]:=by rintro rfl;simp at HV;omega
            have DB:sz=n:=(M3 i9 fT).resolve_left cD;rw[if_neg (by omega),<-DB];have:=bl (l+i) j (by omega) ap;rw[iv] at this;rw[show of+l*sz+(i*sz+j)=of+(l*sz+i*sz+j) by omega];exact this)
          (fun i j hi ap=>by
            rw[hlen] at hi;have cD:rows≠[]:=by rintro rfl;simp at HV;omega
            have DB:sz=n:=(M3 i9 fT).resolve_left cD;rw[if_neg (by omega),<-DB];have:=dO (l+i) j (by omega) ap;rw[iv] at this;rw[show of+l*sz+(i*sz+j)=of+(l*sz+i*sz+j) by omega];exact this)
          (fun i r j x hi ap=>by
            have hi':i<cn -l:=by rw[<-hlen];exact(bo.1 hi).1
            rw[hA hi',kW] at hi;exact ay _ _ _ _ hi ap)
          (fun i r j x hi ap=>by
            have hi':i<cn -l:=by rw[<-hlen];exact(bo.1 hi).1
            rw[hA hi',kW] at hi;exact f0 _ _ _ _ hi ap);rw[hlen] at this;exact this
        refine aHT _ ?_ ?_
        . cases c with
          |nil=>exact absurd rfl ar
          |cx=>simp[ns]
          |any=>simp only[ns];cases(eM s mx').isSome&&(cn==m)<;>simp
          |full=>simp only[ns];cases(eM s mx').isSome<;>cases(cn==m)<;>cases(cn==rows.length)<;>simp
        . intro pj
          cases aG:(eM s mx').isSome with
          |true=>
           have aJv:mx≠none:=by
            rintro rfl;simp only[hS,aW] at jq;subst jq;simp[eM] at aG
           have hm:=UJ aJv;rw[aG] at pj;have:cn=m:=by
            cases c<;>simp only[ns,Bool.true_and,cond_true,reduceCtorEq] at pj;all_goals (cases aj:(cn==m) with
             |true=>simpa using aj
             |false=>rw[aj] at pj;simp at pj)
           omega
          |false=>
           have zT:mx=none:=by
            cases mx with
            |none=>rfl
            |some z=>
             simp only[hS,dK] at jq;obtain⟨y,_,rfl⟩:=jq;simp[eM] at aG
           have aRF:=qm zT;rw[aG] at pj;have:c=.full/\cn=rows.length:=by
            cases c<;>simp only[ns,oS,cond_false,reduceCtorEq] at pj;refine⟨rfl,?_⟩;cases aj:(cn==rows.length) with
            |true=>simpa using aj
            |false=>rw[aj] at pj;simp at pj
           have:=aD this.1;omega
      . simp only[execOp,aA,Instr.sliceAt,Instr.slice,Sem.run_bind,et hu,d7,Result.andThen_ok,xN,g6 aK,Sem.run_pure,lY,Addr.ly]
        split<;>simp
   . cases h
 . rename_i id ver start len an
   rw[an] at rx;split at h
   . rename_i z rows hX fz a7
     split at h
     . rename_i l cn m a4 bd e3
       obtain⟨aw,rfl⟩:=fg h;simp only[cc,decide_eq_true_eq,beq_iff_eq] at aw;obtain⟨⟨⟨⟨⟨a_,aq⟩,eA⟩,HS⟩,pm⟩,aJu⟩:=aw;generalize d7:a.eval x=bj at rx;cases rx with
       |aZ _ _ _ _ L ag hL _ aKc _=>
        obtain⟨aa,a8,af,az,bh,bC,ca,dY,cp⟩:=aB.eL id L _ ag a7;rcases aKc (by rw[af,aq]) with⟨aw,rfl,rfl⟩|⟨eh,f7,of,ie,rfl,i5,hs,gJ⟩
        . have m3:m=0:=by omega
          have vp:cn=0:=by omega
          have Dg:l=0:=by omega
          subst m3 vp Dg;have cw:∀w',(Instr.sliceBounds true 0 0 (lo.map a.eval) (hi.map a.eval) (mx.map a.eval)).run P w'=.ok (0,0,0) w':=fun w'=>wh (P:=P) (b:=true) ak gQ eD jq pq a4 bd e3 (cH _) (cH _) (cH _) w';refine⟨.slice none 0 0,.aZ _ _ _ _ L ag hL _ (fun _=>.inl ⟨aw,rfl,rfl⟩) rfl,fun w' _=>by simp[execOp,aA,Instr.sliceAt,Instr.slice,et hu,d7,cw,g6 aK]⟩
        . obtain⟨ye,aD2,oh,qm⟩:∃ye,iG ie (eM s mx')=some ye/\cn<=ye/\ye<=ie:=by
           cases aG:eM s mx' with
           |none=>exact⟨ie,rfl,by omega,cH _⟩
           |some q=>
            rw[aG] at e3;refine⟨m,?_,pm,by omega⟩;cases q<;>first|exact e3|(simp[iG] at e3;done)
          have cw:∀w',(Instr.sliceBounds true len ie (lo.map a.eval) (hi.map a.eval) (mx.map a.eval)).run P w'=.ok (l,cn,ye) w':=fun w'=>wh (P:=P) (b:=true) ak gQ eD jq pq a4 bd aD2 HS oh qm w';refine⟨.slice (some ⟨L.b,if ye=l then of else of+l*n,none⟩) (cn -l) (ye -l),.aZ _ _ _ _ L ag hL _ (fun _=>.inr ⟨eh,by omega,_,_,rfl,by omega,by omega,fun bx=>?_⟩) rfl,fun w' _=>?_⟩
          . rw[if_neg (by omega),gJ (by omega),a8,a_,iv]
          . simp only[execOp,aA,Instr.sliceAt,Instr.slice,Sem.run_bind,et hu,d7,Result.andThen_ok,cw,g6 aK,Sem.run_pure,lY,Addr.ly]
            split<;>simp
     . cases h
   . cases h
 . cases h
end
end Go.aL
namespace Go.aL
open Go.RowKit (Below)
section
variable{P:Program}{w:World}{Γ:Env}{M:Mem}{s:aI}{a:Act}{o:Oper}{v:V}
theorem LH{x:V}{xs:List V}{bj:Value}(h:bq w Γ x bj)(ar:x.cells?=some xs):ek w Γ xs bj.cells:=by
 have one:∀{y:V}{df:Value},bq w Γ y df->df.cells=#[df]->ek w Γ [y] df.cells:=fun{y df} aE e=>by
  rw[e];refine⟨rfl,fun j z a_=>?_⟩;cases j with
  |zero=>
   simp only[ji,aW] at a_;subst a_;simpa using aE
  |succ j=>simp at a_
 cases x<;>simp only[V.cells?,aW,reduceCtorEq] at ar<;>subst ar
 case agg cs=>cases h with|agg _ bn ag an=>exact⟨ag,an⟩
 case aZ id ver start len=>
  cases h with
  |aZ _ _ _ _ l ag aq _ eA ar=>exact one (.aZ _ _ _ _ l ag aq _ eA ar) (by cases bj<;>first|rfl|simp[Value.oneCell'] at ar)
 all_goals (have hH:=h;cases h<;>exact one hH rfl)
theorem Xa:∀(xs:List V)(bK:List Value)(k off:Nat)(cells:List V)(c:Array Value),ek w Γ cells c->bK.length=xs.length->(∀(j:Nat)(x:V),xs[j]? =some x->bq w Γ x (bK.getD j Go.undef))->
 ek w Γ (g5 cells (off+k) xs) ((bK.zipIdx k).foldl (fun cs p=>cs.setIfInBounds (off+p.2) p.1) c)
 |[],bK,k,off,cells,c,ar,ag,_=>by
  have:bK=[]:=List.length_eq_zero_iff.1 ag;subst this;simpa[g5] using ar
 |x::xs,d::bK,k,off,cells,c,ar,ag,an=>by
  simp only[g5,List.zipIdx_cons,List.foldl_cons];have a8:=an 0 x rfl;rw[show off+k+1=off+(k+1) by omega];refine Xa xs bK (k+1) off _ _ (ar.set a8) (by simpa using ag) (fun j y aE=>?_);simpa using an (j+1) y (by simpa using aE)
 |x::xs,[],k,off,cells,c,ar,ag,an=>by simp at ag
theorem Ki:∀(xs cells:List V)(off:Nat),(g5 cells off xs).length=cells.length
 |[],cells,off=>rfl
 |x::xs,cells,off=>by simp[g5,Ki xs]
inductive y5(w:World)(Γ:Env)(place:Nat->Option (Nat×Nat)):List (Nat×Nat×V)->List (Nat×Value)->Prop
 |nil:y5 w Γ place [] []
 |cons {off size i:Nat} {x:V} {bj:Value} {cX:List (Nat×Nat×V)} {dR:List (Nat×Value)} (ay:place i=some (off,size)) (ad:bq w Γ x bj) (h:y5 w Γ place cX dR):y5 w Γ place ((off,size,x)::cX) ((i,bj)::dR)
theorem FV{place:Nat->Option (Nat×Nat)}{cX:List (Nat×Nat×V)}{dR:List (Nat×Value)}(h:y5 w Γ place cX dR):∀{cells cs:List V}{c:Array Value},ek w Γ cells c->pb cells cX=some cs->
 ∃d,Instr.fill place c dR=some d/\ek w Γ cs d:=by
 induction h with
 |nil=>
  intro cells cs c ar aD;simp only[pb,aW] at aD;subst aD;exact⟨c,rfl,ar⟩
 |@cons off size i x bj cX dR ay ad UX bu=>
  intro cells cs c ar aD;simp only[pb] at aD;split at aD
  . rename_i xs vJ
    have d7:=LH ad vJ;cases aw:(xs.length==size&&decide (off+size<=cells.length)) with
    |false=>simp[aw] at aD
    |true=>
     simp only[aw,cond_true] at aD;simp only[cc,beq_iff_eq,decide_eq_true_eq] at aw;have e0:=Xa xs bj.cells.toList 0 off cells c ar (by simpa using d7.1) (fun j y aE=>by simpa[iq] using d7.2 j y aE);obtain⟨d,aa,af⟩:=bu e0 aD;refine⟨d,?_,af⟩;have a4:bj.cells.size=size:=by rw[d7.1];exact aw.1
     have bd:¬(off+bj.cells.size>c.size):=by rw[ar.1,a4];omega
     simp only[Instr.fill,ay];rw[if_neg (by simp[a4,ar.1];omega)];rw[<-Array.foldl_toList];simpa using aa
  . cases aD
theorem yT{t:TypeId}{z:List V}(h:kT P t=some z):∃dU:Value,(∀w',(zeroValue t).run P w'=.ok dU w')/\∀(w:World)(Γ:Env),ek w Γ z dU.cells/\∀(j:Nat)(x:V),z[j]? =some x->x.ku=true:=by
 unfold kT at h;split at h
 . rename_i i hi
   split at h
   . rename_i dU a_
     refine⟨dU,fun w'=>by simp[zeroValue,typeInfo,hi,a_],fun w Γ=>?_⟩;obtain⟨aa,af⟩:=FE (w:=w) (Γ:=Γ) h;exact⟨⟨by simpa using aa,fun j x ad=>by simpa using(af j x ad).1⟩,fun j x ad=>(af j x ad).2⟩
   . cases h
 . cases h
theorem Wv:∀(bR:List Field),bR.all (fun f=>(e7 P f.type).isSome)=true->∀w':World,
 (bR.mapM (fun f=>do pure (f.offset,<-sizeOf f.type):Field->Sem (Nat×Nat))).run P w'=.ok (bR.map fun f=>(f.offset,(e7 P f.type).getD 0)) w'
 |[],_,w'=>by simp
 |f::bR,h,w'=>by
  simp only[List.all_cons,cc] at h;obtain⟨n,aK⟩:=Option.isSome_iff_exists.1 h.1;have bu:=Wv bR h.2 w';simp only[List.mapM_cons,Sem.run_bind,g6 aK,Result.andThen_ok,Sem.run_pure,bu,hY,aK,Option.getD_some]
theorem Wr(ak:ep w Γ s a.tmps){bR:Array Field}:∀{d3:List (Nat×Operand)}{cX:List (Nat×Nat×aU)},AG P bR d3=some cX->
 y5 w Γ (fun i=>(bR.map fun f=>(f.offset,(e7 P f.type).getD 0))[i]?) (kk s cX) (d3.map fun p=>(p.1,a.eval p.2))
 |[],cX,h=>by
  simp only[AG,aW] at h;subst h;exact .nil
 |(i,x)::dB,cX,h=>by
  simp only[AG] at h;split at h
  . rename_i f y r aD aE an
    split at h
    . rename_i n aK
      simp only[aW] at h;subst h;exact .cons (by simp[aD,aK]) (d5 ak aE) (Wr ak an)
    . cases h
  . cases h
theorem Kc(ak:ep w Γ s a.tmps){n:Nat}:∀{d3:List (Nat×Operand)}{cX:List (Nat×Nat×aU)},s2 n d3=some cX->
 y5 w Γ (fun i=>some (i*n,n)) (kk s cX) (d3.map fun p=>(p.1,a.eval p.2))
 |[],cX,h=>by
  simp only[s2,aW] at h;subst h;exact .nil
 |(i,x)::dB,cX,h=>by
  simp only[s2] at h;split at h
  . rename_i y r aE an
    simp only[aW] at h;subst h;exact .cons rfl (d5 ak aE) (Kc ak an)
  . cases h
theorem QV(ak:ep w Γ s a.tmps){t:TypeId}{d3:Array (Nat×Operand)}{z:List V}{cX:List (Nat×Nat×aU)}(aA:o.op=.build t d3)(a_:kT P t=some z)
 (hu:(∃bR,P.underlying t=some (.struct bR)/\bR.toList.all (fun f=>(e7 P f.type).isSome)=true/\AG P bR d3.toList=some cX)∨
   (∃k e n,P.underlying t=some (.array k e)/\e7 P e=some n/\s2 n d3.toList=some cX))
 (h:wS z (kk s cX)=some v):hB P w Γ a o v:=by
 unfold wS at h;split at h
 . rename_i cs aD
   simp only[aW] at h;subst h;obtain⟨dU,vN,vM⟩:=yT a_;have u7:(d3.map fun p=>(p.1,a.eval p.2)).toList=d3.toList.map fun p=>(p.1,a.eval p.2):=by simp
   rcases hu with⟨bR,hu,eg,fj⟩|⟨k,e,n,hu,aK,fj⟩
   . obtain⟨d,aa,af⟩:=FV (Wr ak fj) (vM w Γ).1 aD
     refine⟨.agg d,.agg _ _ af.1 af.2,fun w' _=>?_⟩;have hm:(bR.mapM (fun f=>do pure (f.offset,<-sizeOf f.type):Field->Sem (Nat×Nat))).run P w'=.ok (bR.map fun f=>(f.offset,(e7 P f.type).getD 0)) w':=by
      rw[Array.mapM_eq_mapM_toList];simp only[Sem.run_map,Wv bR.toList eg w',Result.andThen_ok]
      congr 1
      apply Array.ext';simp
     simp only[execOp,aA,Instr.build,Sem.run_bind,vN,Result.andThen_ok,et hu,hm,u7,aa,Sem.run_pure]
   . obtain⟨d,aa,af⟩:=FV (Kc ak fj) (vM w Γ).1 aD
     refine⟨.agg d,.agg _ _ af.1 af.2,fun w' _=>?_⟩;simp only[execOp,aA,Instr.build,Sem.run_bind,vN,Result.andThen_ok,et hu,g6 aK,u7,aa,Sem.run_pure]
 . cases h
end
end Go.aL
namespace Go.aL
open Go.RowKit (Below)
def h_(P:Program)(w:World)(Γ:Env)(a:Act)(o:Oper)(v:V)(ah:Mem):Prop:=
 ∃r w' Γ',(execOp a.eval o).run P w=.ok r w'/\((∃bn,r=.value bn/\bq w' Γ' v bn)∨(r=.skip/\v=.undef))/\Good w' Γ' ah/\Ext w Γ w' Γ'
section
variable{P:Program}{w:World}{Γ:Env}{M:Mem}{s:aI}{a:Act}{o:Oper}{v:V}
theorem hB.V6(h:hB P w Γ a o v)(aB:Good w Γ M):h_ P w Γ a o v M:=by
 obtain⟨bn,aa,af⟩:=h;exact⟨_,w,Γ,af w (Below.refl _ _),.inl ⟨bn,rfl,aa⟩,aB,Ext.refl _ _⟩
theorem Vm{x:V}{bj:Value}(h:bq w Γ x bj)(ad:x.iK=true):bj.oneCell'=true:=by
 cases h<;>first|rfl|(simp[V.iK] at ad;done)|assumption
theorem abQ{xs:List V}{cs:Array Value}(h:ek w Γ xs cs)(ad:nq xs=true):∀d∈cs.toList,d.oneCell'=true:=by
 intro d aw;obtain⟨j,ap,rfl⟩:=List.getElem_of_mem aw;have po:j<xs.length:=by rw[<-h.1];simpa using ap
 have ar:(xs[j]).iK=true:=by
  clear h aw ap;induction xs generalizing j with
  |nil=>simp at po
  |cons z lU bu=>
   simp only[nq,cc] at ad;cases j with
   |zero=>exact ad.1
   |succ j=>exact bu ad.2 j (by simpa using po)
 have:=Vm (h.2 j xs[j] (by simp[po])) ar;have ix:j<cs.size:=by rw[h.1];exact po
 simpa[ix] using this
theorem uX:∀{xs:List V},hC xs=true->∀(j:Nat)(x:V),xs[j]? =some x->x.ku=true
 |[],_,j,x,ad=>by simp at ad
 |z::lU,ay,j,x,ad=>by
  simp only[hC,cc] at ay;cases j with
  |zero=>simp at ad;exact ad▸ay.1
  |succ j=>exact uX ay.2 j x (by simpa using ad)
theorem aQe{off row:Nat}{xs cells cs:List V}(h:KN off xs cells row=some cs):off=0/\∃x,xs=[x]/\row<cells.length/\cs=cells.set row x:=by
 unfold KN at h;split at h
 . rename_i x
   obtain⟨aa,rfl⟩:=fg h;exact⟨rfl,x,rfl,by simpa using aa,rfl⟩
 . cases h
theorem abV(aB:Good w Γ M){e:TypeId}{z:List V}(aA:o.op=.alloc e)(a_:kT P e=some z):h_ P w Γ a o (.ptr M.length 0) (M++[.box z]):=by
 obtain⟨dU,aa,af⟩:=yT a_;obtain⟨aT,a2,bJ⟩:=aB.Qr dU.cells e z (af w Γ).1;refine⟨_,_,_,?_,.inl ⟨_,rfl,bJ⟩,aT,a2⟩;simp[execOp,aA,Instr.alloc,aa,newVar,newRow]
theorem acK(aB:Good w Γ M)(ak:ep w Γ s a.tmps){e:TypeId}{n:Nat}{x:Operand}{y:aU}{ah:Mem}(aA:o.op=.box e x)(ad:b4 x=some y)(h:Bi n (aP s y) M=some (v,ah)):h_ P w Γ a o v ah:=by
 unfold Bi at h;split at h
 . rename_i cs fd
   obtain⟨_,h⟩:=fg h;simp only[d_] at h;obtain⟨rfl,rfl⟩:=h;obtain⟨aT,a2,bJ⟩:=aB.Qr _ e cs (LH (d5 ak ad) fd);refine⟨_,_,_,?_,.inl ⟨_,rfl,bJ⟩,aT,a2⟩;simp[execOp,aA,Instr.box,newVar,newRow]
 . cases h
theorem aNI(aB:Good w Γ M)(ak:ep w Γ s a.tmps){t kt o9:TypeId}{x:Operand}{y:aU}{ah:Mem}(aA:o.op=.range t x)(hu:P.underlying t=some (.map kt o9))(ad:b4 x=some y)(h:EG (aP s y) M=some (v,ah)):h_ P w Γ a o v ah:=by
 have an:=d5 ak ad;unfold EG at h;split at h
 . rename_i id ba
   split at h
   . rename_i es a7
     simp only[aW,d_] at h;obtain⟨rfl,rfl⟩:=h;rw[ba] at an;generalize d7:a.eval x=bj at an;cases an with
     |map _ l ag aj aq=>
      obtain⟨_,_,_,c9,clock,az,bh,bC,ca⟩:=aB.eL id l _ ag a7;have cw:=run_range_map (P:=P) w t kt o9 l.b c9 clock hu az;rw[ca] at cw;obtain⟨aT,a2,bJ⟩:=aB.abU (n:=es.length) ag aj aq;refine⟨_,_,_,?_,.inl ⟨_,rfl,bJ⟩,aT,a2⟩;simp[execOp,aA,d7,cw]
   . cases h
 . cases h
theorem W_{w:World}{r:Nat}{o:Obj}{k:Nat}(h:k≠r):(ChangeMaps.setBlock w r o).heap[k]? =w.heap[k]? :=by
 simp[ChangeMaps.setBlock,Array.getElem?_setIfInBounds_ne (gq h)]
theorem aOT{w:World}{r:Nat}{o:Obj}(h:r<w.heap.size):(ChangeMaps.setBlock w r o).heap[r]? =some o:=by
 simp[ChangeMaps.setBlock,h]
theorem aMW(aB:Good w Γ M){id mid n:Nat}{seen:List Nat}{es:List (V×V)}{l:Loc}(ag:Γ.c0[id]? =some l)(a7:M[id]? =some (.iter mid n seen))(hm:M[mid]? =some (.map es))(aK:es.length=n)(nh:TypeId):
 ((∀i,i<n->i∈seen)/\(Instr.next (.pointer (some ⟨l.b,0,none⟩)) false nh).run P w=.ok (.tuple #[.bool false]) w)∨
 ∃i cB bn w' Γ',es[i]? =some cB/\i∉seen/\(Instr.next (.pointer (some ⟨l.b,0,none⟩)) false nh).run P w=.ok bn w'/\bq w' Γ' (.tuple [.bool true,cB.1,cB.2]) bn/\Good w' Γ' (M.set id (.iter mid n (seen++[i])))/\Ext w Γ w' Γ':=by
 obtain⟨aa,aq,af,ja,az,bh,bC,ca⟩:=aB.eL id l _ ag a7;obtain⟨_,_,_,c9,clock,dS,ft,fl,ij⟩:=aB.eL mid ja _ az hm;have MU:clock=n:=ij.trans aK;subst MU;have get:∀x∈c9.toList,∃(i:Nat)(cB:V×V),c9[i]? =some x/\es[i]? =some cB/\x.born=i:=fun x ad=>by
  obtain⟨i,hi⟩:=ir ad;have hi':c9[i]? =some x:=by simpa using hi
  have bx:i<es.length:=by rw[<-ft];exact(lp.1 hi').1
  exact⟨i,es[i],hi',gg bx,(fl i x es[i] hi' (gg bx)).2.2.2.2⟩
 have Nq:∀x∈c9.toList,x.born<clock:=fun x ad=>by
  obtain⟨i,cB,hi,qk,aj⟩:=get x ad;rw[aj,<-aK];exact(bo.1 qk).1
 rcases run_next_at (P:=P) w nh l.b ja.b clock clock seen.toArray c9 clock ca dS Nq (cH _) with⟨a8,cw⟩|⟨e,he,gL,ou,cw⟩
 . refine .inl ⟨fun i hi=>?_,cw⟩
   have bx:i<c9.size:=by omega
   have Dm:c9[i]∈c9.toList:=by simp
   have aj:c9[i].born=i:=by
    have mE:i<es.length:=by omega
    exact(fl i c9[i] es[i] (by simp[bx]) (gg mE)).2.2.2.2
   by_cases ak:i∈seen
   . exact ak
   . exfalso
     have:c9[i]∈leftOf c9 seen.toArray:=by
      unfold leftOf;rw[Array.mem_filter];exact⟨by simp,by simp[aj,ak]⟩
     have:=Array.size_pos_of_mem this;omega
 . have HN:e∈c9.toList/\seen.toArray.contains e.born=false:=by
    unfold leftOf at he;simp only[Array.mem_toList_iff,Array.mem_filter] at he;exact⟨by simpa using he.1,by simpa using he.2⟩
   obtain⟨i,cB,hi,qk,aj⟩:=get e HN.1;have sP:i∉seen:=by
    have:=HN.2;rw[aj] at this;simpa using this
   have aT:Good gL Γ M/\Ext w Γ gL Γ/\gL.heap=w.heap:=by
    rcases ou with rfl|rfl
    . exact⟨aB,Ext.refl _ _,rfl⟩
    . exact⟨aB.drew,Ext.drew w Γ,rfl⟩
   obtain⟨aT,a4,cn⟩:=aT;have aJo:l.b<gL.heap.size:=aT.m7 ag aq;have bd:Ext gL Γ (ChangeMaps.setBlock gL l.b (.mapIter (some ja.b) clock (seen.toArray.push e.born) clock)) Γ:=
    Ext.write aT ag (fun k ao=>W_ ao) (by simp[ChangeMaps.setBlock]) rfl rfl rfl (fun o aA=>absurd aA (af o));obtain⟨_,_,NZ,yN,_⟩:=fl i e cB hi qk;refine .inr ⟨i,cB,_,_,Γ,qk,sP,cw,?_,aT.write ag aq bd (fun k ao=>W_ ao) ⟨aa,aq,af,ja,az,bh,bC,?_⟩,a4.trans bd⟩
   . refine .tuple _ _ rfl fun j x ad=>?_
     match j,ad with
     |0,ad=>simp at ad;subst ad;exact .bool true
     |1,ad=>simp at ad;subst ad;exact(NZ.ext a4).ext bd
     |2,ad=>simp at ad;subst ad;exact(yN.ext a4).ext bd
   . rw[aOT aJo,aj]
     simp
theorem aLv(aB:Good w Γ M)(ak:ep w Γ s a.tmps){x:Operand}{dh:aU}{t kt o9:TypeId}{ah:Mem}(aA:o.op=.call ⟨.builtin .len,#[x],#[t]⟩) (hu:P.underlying t=some (.map kt o9)) (ad:b4 x=some dh)
 (h:Ej (aP s dh) M=some (v,ah)):h_ P w Γ a o v ah:=by
 have an:=d5 ak ad;unfold Ej at h;split at h
 . rename_i id ba
   split at h
   . rename_i es a7
     simp only[aW,d_] at h;obtain⟨rfl,rfl⟩:=h;rw[ba] at an;generalize d7:a.eval x=bj at an;cases an with
     |map _ l ag aj aq=>
      obtain⟨_,_,_,c9,clock,az,bh,bC,ca⟩:=aB.eL id l _ ag a7;refine⟨_,w,Γ,?_,.inl ⟨_,rfl,.int _ _⟩,aB,Ext.refl _ _⟩;rw[<-bh];simp[execOp,aA,resolve,invoke,builtin,d7,Builtin.len_,et hu,MapKept.run_getObj_map az,goInt]
   . cases h
 . cases h
theorem aEe(aB:Good w Γ M)(ak:ep w Γ s a.tmps){x:Operand}{y:aU}{ah:Mem}(aA:o.op=.entry x)(ad:b4 x=some y)(h:zm (aP s y) M=some (v,ah)):h_ P w Γ a o v ah:=by
 have an:=d5 ak ad;unfold zm at h;split at h
 . rename_i id ba
   split at h
   . rename_i mid n seen a7
     split at h
     . rename_i es i hm sM
       obtain⟨aK,h⟩:=rk h;simp only[dK,d_] at h;obtain⟨cB,qk,rfl,rfl⟩:=h;rw[ba] at an;generalize d7:a.eval x=bj at an;cases an with
       |ptr _ _ l ag aj aq=>
        obtain⟨aa,aq,af,ja,az,bh,bC,ca⟩:=aB.eL id l _ ag a7;obtain⟨_,_,_,c9,clock,dS,ft,fl,ij⟩:=aB.eL mid ja _ az hm;have aK:es.length=n:=oV aK;have MU:clock=n:=ij.trans aK;subst MU;have hi:i<c9.size:=by rw[ft];exact(bo.1 qk).1
        have he:c9[i]? =some c9[i]:=by simp[hi]
        obtain⟨_,_,NZ,yN,aj⟩:=fl i _ cB he qk;have UN:(c9.toList.map (·.born)).Nodup:=by
         have:c9.toList.map (·.born)=c5 c9.size:=by
          refine oT fun j=>?_;by_cases ap:j<c9.size
          . have tV:j<es.length:=by omega
            have:=(fl j c9[j] es[j] (by simp[ap]) (gg tV)).2.2.2.2;simp[ap,this]
          . simp[ap]
         rw[this];exact List.nodup_range
        obtain⟨bH,rfl⟩:=List.getLast?_eq_some_iff.1 sM;have aJ7:(bH++[i]).toArray=bH.toArray.push c9[i].born:=by rw[aj,List.push_toArray]
        rw[aJ7] at ca;have cw:=run_entry_at (P:=P) w l.b ja.b clock bH.toArray c9 clock c9[i] ca dS (by simp) UN;refine⟨_,w,Γ,(show(execOp a.eval o).run P w=.ok (.value (.tuple #[c9[i].key,c9[i].val])) w by simp[execOp,aA,d7,cw]),.inl ⟨_,rfl,?_⟩,aB,Ext.refl _ _⟩;refine .tuple _ _ rfl fun j x ad=>?_;match j,ad with
        |0,ad=>simp at ad;subst ad;exact NZ
        |1,ad=>simp at ad;subst ad;exact yN
     . cases h
   . cases h
 . cases h
theorem aMg(aB:Good w Γ M)(ak:ep w Γ s a.tmps){t:TypeId}{kt o9:TypeId}{r:Option Operand}{fO:Option aU}{ah:Mem}(aA:o.op=.makeMap t r)(hu:P.underlying t=some (.map kt o9))(an:hS r=some fO)(h:yc (eM s fO) M=some (v,ah)):h_ P w Γ a o v ah:=by
 obtain⟨aT,a2,bJ⟩:=aB.allocMap;have key:v=.map M.length/\ah=M++[.map []]/\(r=none∨∃x k i,r=some x/\a.eval x=.int k i):=by
  cases r with
  |none=>
   simp only[hS,aW] at an;subst an;simp only[eM,yc,aW,d_] at h;exact⟨h.1.symm,h.2.symm,.inl rfl⟩
  |some x=>
   simp only[hS,dK] at an;obtain⟨y,aE,rfl⟩:=an;have rx:=d5 ak aE;simp only[eM,yc] at h;split at h
   . rename_i heq;cases heq
   . rename_i k i heq
     simp only[aW] at heq h;rw[heq] at rx;simp only[d_] at h;exact⟨h.1.symm,h.2.symm,.inr ⟨x,k,i,rfl,kv rx⟩⟩
   . cases h
 obtain⟨rfl,rfl,jY⟩:=key;refine⟨_,_,_,?_,.inl ⟨_,rfl,bJ⟩,aT,a2⟩;rcases jY with rfl|⟨x,k,i,rfl,ad⟩
 . simp[execOp,aA,Instr.makeMap]
 . simp[execOp,aA,Instr.makeMap,et hu,ad,asInt,asIntOf]
def r6:Array Value->Nat->List Value->Array Value
 |c,_,[]=>c
 |c,o,d::bK=>r6 (c.setIfInBounds o d) (o+1) bK
theorem s_:∀(bK:List Value)(c:Array Value)(o:Nat),(r6 c o bK).size=c.size
 |[],c,o=>rfl
 |d::bK,c,o=>by simp[r6,s_ bK]
theorem r7:∀(bK:List Value)(c:Array Value)(o j:Nat),o+bK.length<=c.size->(r6 c o bK).getD j Go.undef=if o<=j/\j<o+bK.length then bK.getD (j -o) Go.undef else c.getD j Go.undef
 |[],c,o,j,h=>by simp[r6];intro _ _;omega
 |d::bK,c,o,j,h=>by
  simp only[dC] at h;rw[r6,r7 bK _ _ j (by simp;omega)];by_cases aa:o+1<=j/\j<o+1+bK.length
  . rw[if_pos aa,if_pos (by simp;omega)]
    rw[show j -o=(j -(o+1))+1 by omega];simp
  . rw[if_neg aa]
    by_cases af:j=o
    . subst af
      rw[if_pos (by simp)];have:j<c.size:=by omega
      simp[iq,this]
    . rw[if_neg (by simp;omega)]
      simp[iq,Array.getElem?_setIfInBounds_ne (gq af)]
theorem yD{b:Nat}{T:TypeId}:∀(bK:List Value)(c:Array Value)(o k:Nat)(w:World),w.heap[b]? =some (.cells c T (0,0))->o+k+bK.length<=c.size->(∀d∈bK,d.oneCell'=true)->
 ∃w',(storeCells ⟨b,o,none⟩ bK k).run P w=.ok () w'/\w'.heap[b]? =some (.cells (r6 c (o+k) bK) T (0,0))/\(∀j,j≠b->w'.heap[j]? =w.heap[j]?)/\w'.heap.size=w.heap.size/\w'.os=w.os/\w'.tape=w.tape/\w'.output=w.output
 |[],c,o,k,w,aj,hle,aw=>⟨w,by simp[storeCells],aj,fun _ _=>rfl,rfl,rfl,rfl,rfl⟩
 |d::bK,c,o,k,w,aj,hle,aw=>by
  simp only[dC] at hle;have dO:w.cell? ⟨b,o+k,none⟩=some (c.getD (o+k) Go.undef):=by rw[kB aj];exact jV (by omega)
  have tT:w.frozen? ⟨b,o+k,none⟩=false:=by simp[World.frozen?,aj]
  have aa:=run_store P w ⟨b,o+k,none⟩ d .plain (aw d (by simp));simp only[dO,tT] at aa;obtain⟨w',aT,a2,bJ,c8,eI,eZ,iI⟩:=yD bK (c.setIfInBounds (o+k) d) o (k+1) (w.setCell ⟨b,o+k,none⟩ d) (aId w b (o+k) d aj) (by simp;omega) (fun hF vh=>aw hF (by simp[vh]));refine⟨w',?_,?_,fun j ap=>(bJ j ap).trans (aIe w _ d ap),c8.trans (by simp),eI,eZ,iI⟩
  . simp only[storeCells,Addr.ly,Sem.run_bind,aa]
    simpa using aT
  . simpa[r6,kX] using a2
theorem OA(xs cells:List V)(off j:Nat)(h:off+xs.length<=cells.length):(g5 cells off xs)[j]? =if off<=j/\j<off+xs.length then xs[j -off]? else cells[j]? :=by
 induction xs generalizing cells off with
 |nil=>simp[g5];intro _ _;omega
 |cons x xs bu=>
  simp only[dC] at h;rw[g5,bu _ _ (by simp;omega)];by_cases aa:off+1<=j/\j<off+1+xs.length
  . rw[if_pos aa,if_pos (by simp;omega),show j -off=(j -(off+1))+1 by omega]
    simp
  . rw[if_neg aa]
    by_cases af:j=off
    . subst af
      rw[if_pos (by simp),eB (by omega)];simp
    . rw[if_neg (by simp;omega),dv (gq af)]
theorem aNB{xs cells:List V}{bK:List Value}{c:Array Value}{off:Nat}(ar:ek w Γ cells c)(ad:ek w Γ xs bK.toArray)(h:off+xs.length<=cells.length):ek w Γ (g5 cells off xs) (r6 c off bK):=by
 have ag:bK.length=xs.length:=by simpa using ad.1
 refine⟨by rw[s_,Ki];exact ar.1,fun j x ap=>?_⟩;rw[OA xs cells off j h] at ap;rw[r7 bK c off j (by rw[ar.1,ag];exact h),ag];split at ap
 . rename_i eN
   rw[if_pos eN];have:=ad.2 _ _ ap;simpa[iq] using this
 . rename_i eN
   rw[if_neg eN];exact ar.2 j x ap
theorem aPt(aB:Good w Γ M)(ak:ep w Γ s a.tmps){t:TypeId}{n:Nat}{x y:Operand}{dh hh:aU}{ah:Mem}(aA:o.op=.store t x y)(aK:e7 P t=some n)(ad:b4 x=some dh)(aE:b4 y=some hh)
 (h:Kw n (aP s dh) (aP s hh) M=some ah):h_ P w Γ a o .undef ah:=by
 have rx:=d5 ak ad;have hV:=d5 ak aE;unfold Kw at h;split at h
 . rename_i xs vJ
   cases aw:(xs.length==n&&nq xs) with
   |false=>simp[aw] at h
   |true=>
    simp only[aw,cond_true] at h;simp only[cc,beq_iff_eq] at aw;have d7:=LH hV vJ;have nB:=abQ d7 aw.2;have fT:(a.eval y).cells.size=n:=by rw[d7.1];exact aw.1
    have h0:(a.eval y).cells.toList.length=xs.length:=by simpa using d7.1
    split at h
    . rename_i id off ay
      rw[ay] at rx;split at h
      . rename_i cells a7
        obtain⟨hle,rfl⟩:=fg h;have hle:off+n<=cells.length:=by simpa using hle
        generalize qg:a.eval x=bj at rx;cases rx with
        |ptr _ _ l ag aj aq=>
         obtain⟨aa,xn,af,c,T,az,bh⟩:=aB.eL id l _ ag a7;obtain⟨w',aT,a2,bJ,c8,eI,eZ,iI⟩:=yD (P:=P) (a.eval y).cells.toList c off 0 w az (by rw[h0,bh.1,aw.1];omega) nB;have he:Ext w Γ w' Γ:=Ext.write aB ag bJ c8 eI eZ iI (fun o' ei=>absurd ei (af o'));have f0:ek w Γ (g5 cells off xs) (r6 c off (a.eval y).cells.toList):=aNB bh (by simpa using d7) (by rw[aw.1];exact hle);refine⟨.skip,w',Γ,?_,.inr ⟨rfl,rfl⟩,aB.write ag xn he bJ ⟨aa,xn,af,_,T,a2,(by simpa using f0.ext he)⟩,he⟩;simp[execOp,aA,Instr.storeAt,Instr.sureAddr,qg,storeVar,g6 aK,fT,aT]
      . cases h
    . rename_i id ver row off ay
      rw[ay] at rx;split at h
      . rename_i z rows hX fz a7
        cases k_:(hX==ver&&decide (fz<=row)&&hC xs) with
        |false=>simp[k_] at h
        |true=>
         simp only[k_,cond_true] at h;simp only[cc,beq_iff_eq,decide_eq_true_eq] at k_;obtain⟨⟨hL,m1⟩,Nw⟩:=k_;split at h
         . rename_i r an
           obtain⟨hle,rfl⟩:=fg h;have hle:off+n<=r.length:=by simpa using hle
           generalize qg:a.eval x=bj at rx;cases rx with
           |fq _ _ _ _ l ag jE p Ns=>
            obtain⟨aa,a8,af,az,bh,bC,ca,dY,cp⟩:=aB.eL id l _ ag a7;have iy:row<rows.length:=(bo.1 an).1;have eh:l.live=true:=bq.Fs aB ag a7 (by rintro rfl;simp at iy);obtain⟨dj,c,T,cp,eU,fy⟩:=cp eh;have ay:=Ns (by rw[af,hL]);subst ay;have om:=ca row r an;have aHP:(row+1)*l.sz<=l.cap*l.sz:=jv _ (by omega);rw[iv,Nat.one_mul] at aHP;obtain⟨w',aT,a2,bJ,c8,eI,eZ,iI⟩:=yD (P:=P) (a.eval y).cells.toList c (row*l.sz+off) 0 w cp (by rw[h0,aw.1,eU];omega) nB;have aRz:fz*l.sz<=row*l.sz:=jv _ m1;have he:Ext w Γ w' Γ:=Ext.write aB ag bJ c8 eI eZ iI (fun o' ei=>by
             refine OO cp a2 ?_;rw[kB a2,kB cp];have bx:o'<fz*l.sz:=(dj o').1 ei;have vw:o'<c.size:=by rw[eU];omega
             rw[jV (by rw[s_];exact vw),jV vw,r7 _ _ _ _ (by rw[h0,aw.1,eU];omega),if_neg (by omega)]);refine⟨.skip,w',Γ,?_,.inr ⟨rfl,rfl⟩,aB.write ag eh he bJ ?_,he⟩
            . simp[execOp,aA,Instr.storeAt,Instr.sureAddr,qg,storeVar,g6 aK,fT,aT]
            . have mb:(g5 r off xs).length=r.length:=Ki _ _ _
              have aJP:=uX Nw;refine⟨aa,a8,af,by simpa using az,by simpa using bh,bC,fun i fO hi=>?_,fun i fO j x hi ap=>?_,fun _=>⟨dj,_,T,a2,by rw[s_];exact eU,fun i fO j x hi ap=>?_⟩⟩
              . by_cases rH:row=i
                . subst rH
                  rw[eB iy] at hi;simp only[aW] at hi;rw[<-hi,mb];exact om
                . rw[dv rH] at hi;exact ca i fO hi
              . by_cases rH:row=i
                . subst rH
                  rw[eB iy] at hi;simp only[aW] at hi;rw[<-hi,OA xs r off j (by rw[aw.1];exact hle)] at ap;split at ap
                  . exact aJP _ _ ap
                  . exact dY _ _ _ _ an ap
                . rw[dv rH] at hi;exact dY _ _ _ _ hi ap
              . by_cases rH:row=i
                . subst rH
                  rw[eB iy] at hi;simp only[aW] at hi;rw[<-hi,OA xs r off j (by rw[aw.1];exact hle)] at ap;rw[r7 _ _ _ _ (by rw[h0,aw.1,eU];omega),h0,aw.1];split at ap
                  . rename_i eN
                    rw[if_pos (by omega)];have:=d7.2 _ _ ap;rw[show row*l.sz+j -(row*l.sz+off+0)=j -off by omega];simpa[iq] using this.ext he
                  . rename_i eN
                    rw[if_neg (by omega)];exact(fy _ _ _ _ an ap).ext he
                . rw[dv rH] at hi
                  rw[r7 _ _ _ _ (by rw[h0,aw.1,eU];omega),h0,aw.1];have ex:j<l.sz:=by rw[<-ca i fO hi];exact(bo.1 ap).1
                  have cD:¬(row*l.sz+off+0<=i*l.sz+j/\i*l.sz+j<row*l.sz+off+0+n):=by
                   rintro⟨dx,dm⟩;rcases Nat.lt_or_gt_of_ne rH with bx|bx
                   . have:(row+1)*l.sz<=i*l.sz:=jv _ bx
                     rw[iv] at this;omega
                   . have:(i+1)*l.sz<=row*l.sz:=jv _ bx
                     rw[iv] at this;omega
                  rw[if_neg cD];exact(fy _ _ _ _ hi ap).ext he
         . cases h
      . rename_i cells hX a7
        cases hL:hX==ver with
        |false=>simp[hL] at h
        |true=>
         simp only[hL,cond_true] at h;have hL:hX=ver:=by simpa using hL
         split at h
         . rename_i cs fd
           simp only[aW] at h;subst h;obtain⟨rfl,h6,rfl,iy,rfl⟩:=aQe fd;have xF:n=1:=by have:=aw.1;simpa using this.symm
           subst xF;generalize qg:a.eval x=bj at rx;cases rx with
           |fq _ _ _ _ l ag jE p Ns=>
            obtain⟨aa,a8,af,bh,bC,cp⟩:=aB.eL id l _ ag a7;have eh:l.live=true:=by
             cases jE:l.live with
             |true=>rfl
             |false=>have:=bC jE;omega
            obtain⟨dj,c,T,cp,eU,fy⟩:=cp eh;have ay:=Ns (by rw[af,hL]);rw[a8,kY,iT] at ay;subst ay;have MX:(a.eval y).cells.toList.length=1:=by rw[h0];rfl
            obtain⟨w',aT,a2,bJ,c8,eI,eZ,iI⟩:=yD (P:=P) (a.eval y).cells.toList c row 0 w cp (by rw[MX];omega) nB;have he:Ext w Γ w' Γ:=Ext.write aB ag bJ c8 eI eZ iI (fun o' ei=>absurd ei (dj o'));refine⟨.skip,w',Γ,?_,.inr ⟨rfl,rfl⟩,aB.write ag eh he bJ ?_,he⟩
            . simp[execOp,aA,Instr.storeAt,Instr.sureAddr,qg,storeVar,g6 aK,fT,aT]
            . refine⟨aa,a8,af,by simpa using bh,bC,fun _=>⟨dj,_,T,a2,by rw[s_];exact eU,fun j z a_=>?_⟩⟩
              rw[r7 _ _ _ _ (by rw[MX];omega),MX];by_cases ap:row=j
              . subst ap
                rw[eB iy] at a_;simp only[aW] at a_;subst a_;rw[if_pos (by omega),show row -(row+0)=0 by omega];have:=d7.2 0 h6 rfl;simpa[iq] using this.ext he
              . rw[dv ap] at a_
                rw[if_neg (by omega)];exact(fy j z a_).ext he
         . cases h
      . cases h
    . cases h
 . cases h
end
end Go.aL
namespace Go.aL
open Go.RowKit (Below)
section
variable{P:Program}{w:World}{Γ:Env}{M:Mem}{s:aI}{a:Act}{o:Oper}{v:V}
def tJ(b sz:Nat):Loc:=⟨b,false,false,sz,0,0⟩
theorem Ext.ghost(w:World)(Γ:Env)(l:Loc):Ext w Γ w (Γ.more l) where
 s b o ak:=⟨ak,rfl⟩
 c0 i l' ag:=⟨l',by
  have hi:i<Γ.c0.length:=(bo.1 ag).1;simp only[Env.more];rw[gp hi,ag],cH _,fun _=>rfl,fun _=>rfl⟩
 cz:=rfl
 below:=Below.refl _ _
 r9 b o aj ak:=ak
theorem Good.Hw(h:Good w Γ M)(sz:Nat){B:a1}(bU:uM w (Γ.more (tJ Γ.h8 sz)) (tJ Γ.h8 sz) B):Good w (Γ.more (tJ Γ.h8 sz)) (M++[B]):=by
 have split:∀i l',(Γ.more (tJ Γ.h8 sz)).c0[i]? =some l'->(i<M.length/\Γ.c0[i]? =some l')∨(i=M.length/\l'=tJ Γ.h8 sz):=by
  intro i l' ag;simp only[Env.more] at ag;by_cases hi:i<Γ.c0.length
  . rw[gp hi] at ag
    exact .inl ⟨by rw[<-h.len];exact hi,ag⟩
  . rw[j_ (Nat.le_of_not_lt hi)] at ag
    have:i -Γ.c0.length=0:=by
     have:=(bo.1 ag).1;simp at this;omega
    rw[this] at ag;simp at ag;exact .inr ⟨by rw[<-h.len];omega,ag.symm⟩
 refine⟨by simp[Env.more,h.len],fun i l' qV ag ih=>?_,fun i l' ag=>?_,fun i j cZ e4 aa af nj j7 aj=>?_,h.jL,h.base,h.jO⟩
 . rcases split i l' ag with⟨hi,er⟩|⟨hi,rfl⟩
   . rw[gp hi] at ih
     exact(h.eL i l' qV er ih).fN (Ext.ghost w Γ _) (fun _=>rfl) (fun _ _ h=>h)
   . subst hi
     simp at ih;subst ih;exact bU
 . rcases split i l' ag with⟨hi,er⟩|⟨hi,rfl⟩
   . exact h.cz i l' er
   . exact cH _
 . rcases split i cZ aa with⟨hi,fc⟩|⟨hi,rfl⟩<;>rcases split j e4 af with⟨ap,gP⟩|⟨ap,rfl⟩
   . exact h.inj i j cZ e4 fc gP nj j7 aj
   . cases j7
   . cases nj
   . omega
theorem Good.ghost(h:Good w Γ M)(sz:Nat):Good w (Γ.more (tJ Γ.h8 sz)) (M++[.arr sz [] 0 0]):=
 h.Hw sz ⟨rfl,rfl,rfl,cH _,cH _,fun _=>rfl,fun i r an=>by simp at an,fun i r j x an=>by simp at an,fun aq=>by cases aq⟩
theorem Wb(aB:Good w Γ M){x:Operand}{sz:Nat}(aA:o.op=.assign x)(ad:NQ x=true){ah:Mem}(h:AC sz M=some (v,ah)):h_ P w Γ a o v ah:=by
 have aq:a.eval x=.slice none 0 0:=by
  unfold NQ at ad;split at ad
  . rfl
  . cases ad
 simp only[AC,aW,d_] at h;obtain⟨rfl,rfl⟩:=h;cases sz with
 |zero=>
  refine⟨_,w,_,by simp[execOp,aA,aq];rfl,.inl ⟨_,rfl,?_⟩,aB.Hw 1 (B:=.vec [] 0) ⟨rfl,rfl,rfl,cH _,fun _=>rfl,fun aq=>by cases aq⟩,Ext.ghost w Γ _⟩;exact .aZ _ _ _ _ (tJ Γ.h8 1) (by simp[Env.more,<-aB.len]) (cH _) _ (fun _=>.inl ⟨rfl,rfl,rfl⟩) rfl
 |succ n=>
  refine⟨_,w,_,by simp[execOp,aA,aq];rfl,.inl ⟨_,rfl,?_⟩,aB.ghost (n+1),Ext.ghost w Γ _⟩;exact .aZ _ _ _ _ (tJ Γ.h8 (n+1)) (by simp[Env.more,<-aB.len]) (cH _) _ (fun _=>.inl ⟨rfl,rfl,rfl⟩) rfl
def wN(b sz cap:Nat):Loc:=⟨b,false,true,sz,cap,0⟩
theorem Good.Qq(h:Good w Γ M)(c:Array Value)(T:TypeId)(sz cap:Nat)(rows:List (List V))(ar:c.size=cap*sz)(hle:rows.length<=cap)(fT:∀(i:Nat)(r:List V),rows[i]? =some r->r.length=sz)
 (ay:∀(i:Nat)(r:List V)(j:Nat)(x:V),rows[i]? =some r->r[j]? =some x->x.ku=true/\bq w Γ x (c.getD (i*sz+j) Go.undef)):
 Good (w.alloc (.cells c T)) (Γ.more (wN w.heap.size sz cap)) (M++[.arr sz rows 0 0])/\Ext w Γ (w.alloc (.cells c T)) (Γ.more (wN w.heap.size sz cap)):=by
 have he:=Ext.o0 h (.cells c T) (wN w.heap.size sz cap);refine⟨h.o0 _ _ rfl _ ⟨rfl,rfl,rfl,fR _,hle,(fun aq=>by cases aq),fT,fun i r j x an ad=>(ay i r j x an ad).1,fun _=>⟨fun o=>⟨fun aA=>absurd aA (h.v5 o),(fun aA=>by simp at aA)⟩,c,T,heap_alloc_new w _,ar,fun i r j x an ad=>(ay i r j x an ad).2.ext he⟩⟩,he⟩
theorem OE(h:Good w Γ M){w':World}{sz cap len:Nat}(hle:len<=cap):bq w' (Γ.more (wN w.heap.size sz cap)) (.aZ M.length 0 0 len) (.slice (some ⟨w.heap.size,0,none⟩) len cap):=
 .aZ _ _ _ _ (wN w.heap.size sz cap) (by simp[Env.more,<-h.len]) (cH _) _ (fun _=>.inr ⟨rfl,(by show 0+len<=cap;omega),0,cap,rfl,(by show 0+cap<=cap;omega),hle,(fun _=>by simp)⟩) rfl
theorem aQU{lU:Array Value}{n sz i j:Nat}(a_:lU.size=sz)(ap:j<sz)(h:i*sz+j<n):(((Array.range n).map (lU[·%lU.size]!)).getD (i*sz+j) Go.undef)=lU.getD j Go.undef:=by
 have e:(i*sz+j)%lU.size=j:=by rw[a_,Nat.add_comm,Nat.add_mul_mod_self_right,Nat.mod_eq_of_lt ap]
 have po:j<lU.size:=by omega
 simp[iq,h,e,po]
theorem VK(aB:Good w Γ M)(ak:ep w Γ s a.tmps){t e:TypeId}{i:TypeInfo}{z:List V}{l c:Operand}{l' cK:aU}{ah:Mem}(aA:o.op=.makeSlice t l c)(hu:P.underlying t=some (.slice e))(hi:P.info? e=some i)(a_:kT P e=some z)
 (qv:z.length=i.size)(ay:hC z=true)(ag:b4 l=some l')(ar:b4 c=some cK)(h:m8 z i.size i.bytes (aP s l') (aP s cK) M=some (v,ah)):h_ P w Γ a o v ah:=by
 have rl:=d5 ak ag;have rc:=d5 ak ar;unfold m8 at h;split at h
 . rename_i bI L ce C a4 bd
   rw[a4] at rl;rw[bd] at rc;have rl:=kv rl;have rc:=kv rc;obtain⟨aw,h⟩:=fg h;simp only[d_] at h;obtain⟨rfl,rfl⟩:=h;simp only[cc,decide_eq_true_eq] at aw;obtain⟨⟨⟨cV,aRk⟩,aHS⟩,TW⟩:=aw;obtain⟨dU,vN,vM⟩:=yT a_;have vL:=(vM w Γ).1;have aQq:IntKind.i64.wrap L=L:=by
    have e:(2:Int)^IntKind.i64.bits=18446744073709551616:=by decide
    have fx:(2:Int)^(IntKind.i64.bits -1)=9223372036854775808:=by decide
    unfold IntKind.wrap;simp only[e,fx,show IntKind.i64.signed=true from rfl,Bool.true_and,decide_eq_true_eq];split<;>omega
   have aQp:IntKind.i64.wrap C=C:=by
    have e:(2:Int)^IntKind.i64.bits=18446744073709551616:=by decide
    have fx:(2:Int)^(IntKind.i64.bits -1)=9223372036854775808:=by decide
    unfold IntKind.wrap;simp only[e,fx,show IntKind.i64.signed=true from rfl,Bool.true_and,decide_eq_true_eq];split<;>omega
   have xT:dU.cells.size=i.size:=by rw[vL.1,qv]
   let cells:Array Value:=if C.toNat*i.size=0 then(Array.range (C.toNat*i.size)).map ((#[]:Array Value)[·%(#[]:Array Value).size]!) else(Array.range (C.toNat*i.size)).map (dU.cells[·%dU.cells.size]!)
   have fd:cells.size=C.toNat*i.size:=by simp only[cells];split<;>simp
   obtain⟨aT,a2⟩:=aB.Qq cells e i.size C.toNat (f_ L.toNat z) fd (by simp;omega)
    (fun j r an=>by
      have:=(bo.1 an);obtain⟨dx,dm⟩:=this;simp at dm;rw[<-dm];exact qv)
    (fun j r m x an ad=>by
      obtain⟨dx,dm⟩:=bo.1 an;simp only[List.length_replicate] at dx;simp only[List.getElem_replicate] at dm;subst dm;refine⟨uX ay m x ad,?_⟩;have hm:m<i.size:=by rw[<-qv];exact(bo.1 ad).1
      have bx:j*i.size+m<C.toNat*i.size:=by
       have:(j+1)*i.size<=C.toNat*i.size:=jv _ (by omega);rw[iv] at this;omega
      have cD:¬(C.toNat*i.size=0):=by omega
      simp only[cells,if_neg cD];rw[aQU xT hm bx];exact vL.2 m x ad);refine⟨_,_,_,?_,.inl ⟨_,rfl,OE aB (w':=_) (sz:=i.size) (cap:=C.toNat) (by omega)⟩,aT,a2⟩;have aj:¬(2^48<(i.bytes:Int)*C):=by rw[Int.mul_comm];omega
   have aK:(e7 P e)=some i.size:=by simp[e7,hi]
   have aG_:¬C<0:=by omega
   have aHe:¬L<0:=by omega
   have aHg:¬L>C:=by omega
   simp only[execOp,aA,Instr.makeSlice,Sem.run_bind,et hu,Result.andThen_ok,rl,rc,asInt,asIntOf,Sem.run_pure,aQq,aQp,typeInfo,run_program,hi];simp only[aG_,aHe,aHg,aj,decide_false,Bool.or_false,Bool.false_or,jh,if_false,gt_iff_lt];simp only[Sem.run_bind,run_askRoom,Result.andThen_ok,g6 aK,Sem.run_ite,Sem.run_pure,vN,newRow,run_newObj];by_cases a8:C.toNat*i.size=0
   . simp only[cells,a8,if_true]
     simp
   . simp only[cells,a8,if_false]
     simp
 . cases h
theorem Good.toVec{z:V}{n ver:Nat}(aB:Good w Γ (M++[.arr 1 (f_ n [z]) ver 0])):Good w Γ (M++[.vec (f_ n z) ver]):=by
 refine⟨by have:=aB.len;simpa using this,fun i m B hm bU=>?_,aB.cz,aB.inj,aB.jL,aB.base,aB.jO⟩;rcases Nat.lt_trichotomy i M.length with hi|hi|hi
 . rw[gp hi] at bU
   exact aB.eL i m B hm (by rw[gp hi];exact bU)
 . subst hi
   simp only[List.getElem?_concat_length,aW] at bU;subst bU;obtain⟨aa,a8,af,az,bh,bC,ca,dY,cp⟩:=aB.eL M.length m (.arr 1 (f_ n [z]) ver 0) hm (by simp);refine⟨aa,a8,af,by simpa using bh,bC,fun aq=>?_⟩;obtain⟨dj,c,T,cp,eU,fy⟩:=cp aq;refine⟨fun o aA=>?_,c,T,cp,by rw[eU,a8,kY],fun j x ad=>?_⟩
   . have:=(dj o).1 aA;omega
   . have ap:j<n:=by have:=(bo.1 ad).1;simpa using this
     rw[List.getElem?_replicate,if_pos ap] at ad;simp only[aW] at ad;subst ad;have:=fy j [z] 0 z (by rw[List.getElem?_replicate,if_pos ap]) rfl;rwa [a8,kY,iT] at this
 . rw[lX (by simp;omega)] at bU
   cases bU
theorem aMk(aB:Good w Γ M)(ak:ep w Γ s a.tmps){t e:TypeId}{i:TypeInfo}{z:V}{l c:Operand}{l' cK:aU}{ah:Mem}(aA:o.op=.makeSlice t l c)(hu:P.underlying t=some (.slice e))(hi:P.info? e=some i)(a_:kT P e=some [z])
 (qv:[z].length=i.size)(ay:hC [z]=true)(ag:b4 l=some l')(ar:b4 c=some cK)(h:JV z i.bytes (aP s l') (aP s cK) M=some (v,ah)):h_ P w Γ a o v ah:=by
 unfold JV at h;split at h
 . rename_i k n aK
   split at h
   . rename_i ae gD hm
     simp only[aW,d_] at h;obtain⟨rfl,rfl⟩:=h;have a4:i.size=1:=qv.symm;have m3:gD=M++[.arr 1 (f_ n.toNat [z]) 0 0]:=by
      unfold m8 at hm;rw[aK] at hm;split at hm
      . rename_i aa af
        simp only[V.int.injEq] at aa;obtain⟨_,rfl⟩:=aa;obtain⟨_,hm⟩:=fg hm;simp only[d_] at hm;exact hm.2.symm
      . cases hm
     subst m3;rw[<-a4] at hm;obtain⟨r,w',Γ',aT,a2,bJ,c8⟩:=VK aB ak aA hu hi a_ qv ay ag ar hm;rw[a4] at bJ;exact⟨r,w',Γ',aT,a2,bJ.toVec,c8⟩
   . cases h
 . cases h
end
end Go.aL
namespace Go.aL
open Go.RowKit (Below)
section
variable{P:Program}{w:World}{Γ:Env}{M:Mem}{s:aI}{a:Act}{o:Oper}{v:V}
theorem uC{i j n sz:Nat}(hi:i<n)(ap:j<sz):i*sz+j<n*sz:=by
 have:(i+1)*sz<=n*sz:=jv _ hi;rw[iv] at this;omega
def mv(w:World)(Γ:Env)(sz:Nat)(rows:List (List V))(bK:List Value):Prop:=
 bK.length=rows.length*sz/\(∀(i:Nat)(r:List V),rows[i]? =some r->r.length=sz)/\
 ∀(i:Nat)(r:List V)(j:Nat)(x:V),rows[i]? =some r->r[j]? =some x->x.ku=true/\bq w Γ x (bK.getD (i*sz+j) Go.undef)
theorem W1(aB:Good w Γ M){x:V}{bj:Value}(ad:bq w Γ x bj){sz:Nat}{rows:List (List V)}(h:eK sz M x=some rows):
 ∃p cap bK,bj=.slice p rows.length cap/\mv w Γ sz rows bK/\∀w':World,(∀(b q:Nat)(u:Value),w.cell? ⟨b,q,none⟩=some u->w'.cell? ⟨b,q,none⟩=some u)->(Builtin.firstCells sz rows.length bj).run P w'=.ok bK.toArray w':=by
 unfold eK at h;split at h
 . rename_i rs c
   obtain⟨cn,rfl⟩:=fg h;cases ad with
   |iO=>exact⟨none,0,[],rfl,⟨by simp,fun i r an=>by simp at an,fun i r j x an=>by simp at an⟩,fun w' _=>by simp[Builtin.firstCells]⟩
   |lR=>exact⟨_,0,[],rfl,⟨by simp,fun i r an=>by simp at an,fun i r j x an=>by simp at an⟩,fun w' _=>by simp[Builtin.firstCells,loadCells,loadCellsFrom]⟩
   |slice _ _ b of z cap bn ar aD f7 fT bl dO ay f0=>
    let bK:=(c5 (rs.length*sz)).map fun q=>bn (q/sz) (q%sz)
    have a_:rs=[]∨z=sz:=M3 cn fT;refine⟨_,_,bK,rfl,⟨by simp[bK],fun i r an=>?_,fun i r j x an ad=>?_⟩,fun w' gR=>?_⟩
    . rcases a_ with rfl|rfl
      . simp at an
      . exact fT i r an
    . rcases a_ with rfl|rfl
      . simp at an
      . have hi:i<rs.length:=(bo.1 an).1
        have ap:j<z:=by rw[<-fT i r an];exact(bo.1 ad).1
        refine⟨ay _ _ _ _ an ad,?_⟩;have a4:(i*z+j)/z=i:=by rw[Nat.add_comm,Nat.add_mul_div_right _ _ (by omega),Nat.div_eq_of_lt ap,ee]
        have bd:(i*z+j)%z=j:=by rw[Nat.add_comm,Nat.add_mul_mod_self_right,Nat.mod_eq_of_lt ap]
        have:bK.getD (i*z+j) Go.undef=bn i j:=by
         simp only[bK,kV];rw[gX,List.getElem?_range (uC hi ap)];simp[a4,bd]
        rw[this];exact f0 _ _ _ _ an ad
    . simp only[Builtin.firstCells]
      rcases a_ with rfl|rfl
      . simp[bK,loadCells,loadCellsFrom]
      . refine run_loadCells w' ⟨b,of,none⟩ (rs.length*z) (fun q=>bn (q/z) (q%z)) (fun q aG=>?_)
        rw[Addr.ly];refine gR _ _ _ ?_;have DF:0<z:=by
         rcases Nat.eq_zero_or_pos z with a8|a8
         . subst a8;simp at aG
         . exact a8
        have vC:q/z<rs.length:=by rw[Nat.div_lt_iff_lt_mul DF];exact aG
        have aJU:q%z<z:=Nat.mod_lt _ DF;have:=dO (q/z) (q%z) vC aJU;have e:q/z*z+q%z=q:=by rw[Nat.mul_comm];exact Nat.div_add_mod q z
        rw[e] at this;exact this
 . rename_i id ver start len
   split at h
   . rename_i z rs hX fz a7
     obtain⟨aj,rfl⟩:=fg h;simp only[cc,beq_iff_eq,decide_eq_true_eq] at aj;obtain⟨⟨a_,hL⟩,hle⟩:=aj;have hlen:((rs.drop start).take len).length=len:=by simp;omega
     cases ad with
     |aZ _ _ _ _ l ag jE _ eA _=>
      obtain⟨aa,a8,af,az,bh,bC,ca,dY,cp⟩:=aB.eL id l _ ag a7;have Dj:l.sz=sz:=by omega
      rcases eA (by rw[af,hL]) with⟨aw,rfl,rfl⟩|⟨eh,f7,of,ie,rfl,i5,hs,gJ⟩
      . exact⟨none,0,[],by simp,⟨by simp,fun i r an=>by simp at an,fun i r j x an=>by simp at an⟩,fun w' _=>by simp[Builtin.firstCells]⟩
      . obtain⟨dj,c,T,cp,eU,fy⟩:=cp eh
        rw[hlen];let bK:=(c5 (len*sz)).map fun q=>c.getD (start*sz+q) Go.undef
        have C2:(start+len)*sz<=c.size:=by rw[eU,Dj];exact jv _ f7
        rw[iv] at C2;have gx:∀i r,((rs.drop start).take len)[i]? =some r->i<len/\rs[start+i]? =some r:=fun i r an=>by
         have hi:i<len:=by rw[<-hlen];exact(bo.1 an).1
         rw[hA hi,kW] at an;exact⟨hi,an⟩
        refine⟨_,_,bK,rfl,⟨by simp[bK,hlen],fun i r an=>?_,fun i r j x an ad=>?_⟩,fun w' gR=>?_⟩
        . rw[<-Dj];exact ca _ _ (gx i r an).2
        . obtain⟨hi,jY⟩:=gx i r an
          have ap:j<sz:=by rw[<-Dj,<-ca _ _ jY];exact(bo.1 ad).1
          refine⟨dY _ _ _ _ jY ad,?_⟩;have:bK.getD (i*sz+j) Go.undef=c.getD ((start+i)*l.sz+j) Go.undef:=by
           simp only[bK,kV];rw[gX,List.getElem?_range (uC hi ap)];simp only[lY,Option.getD_some];rw[Dj,iv,kX]
          rw[this];exact fy _ _ _ _ jY ad
        . simp only[Builtin.firstCells]
          refine run_loadCells w' ⟨l.b,of,none⟩ (len*sz) (fun q=>c.getD (start*sz+q) Go.undef) (fun q aG=>?_);rw[Addr.ly];refine gR _ _ _ ?_;have i9:0<len:=by
           rcases Nat.eq_zero_or_pos len with a8|a8
           . subst a8;simp at aG
           . exact a8
          rw[gJ (by omega),Dj,kB cp];exact jV (by omega)
   . cases h
 . cases h
theorem yv(aB:Good w Γ M){x:V}{bj:Value}(ad:bq w Γ x bj){sz:Nat}{rows:List (List V)}(h:eK sz M x=some rows):
 ∃p cap bK,bj=.slice p rows.length cap/\mv w Γ sz rows bK/\∀w',w'.heap=w.heap->(Builtin.firstCells sz rows.length bj).run P w'=.ok bK.toArray w':=by
 obtain⟨p,cap,bK,aa,af,az⟩:=W1 (P:=P) aB ad h;exact⟨p,cap,bK,aa,af,fun w' hw=>az w' fun b q u hu=>by rw[tu (w:=w) (w':=w') (by rw[hw])];exact hu⟩
theorem QW:∀{rows:List (List V)}{jz:List UInt8},zd rows=some jz->∃lf:List Int,rows=lf.map (fun n=>[.int .u8 n])/\jz=lf.map (fun n=>UInt8.ofNat n.toNat)
 |[],jz,h=>by
  simp only[zd,aW] at h;exact⟨[],rfl,h.symm⟩
 |r::rs,jz,h=>by
  unfold zd at h;split at h
  . rename_i e;cases e
  . rename_i n aR1 e
    simp only[List.cons.injEq] at e;obtain⟨rfl,rfl⟩:=e;obtain⟨aQ9,aa,rfl⟩:=dK.1 h;obtain⟨lf,af,az⟩:=QW aa;exact⟨n::lf,by rw[af];rfl,by rw[az];rfl⟩
  . cases h
theorem TI:∀(lf:List Int)(r:ByteArray),lf.foldl (fun r n=>r.push (UInt8.ofNat n.toNat)) r=⟨r.data++(lf.map (fun n=>UInt8.ofNat n.toNat)).toArray⟩
 |[],r=>by simp
 |n::lf,r=>by
  simp only[List.foldl_cons];rw[TI lf];simp[ByteArray.push]
theorem acS(aB:Good w Γ M)(ak:ep w Γ s a.tmps){src dst e:TypeId}{x:Operand}{y:aU}(aA:o.op=.convert src dst x)(hu:P.underlying src=some (.slice e))(he:P.underlying e=some (.int .u8))(aw:P.underlying dst=some .string)(aE:b4 x=some y)
 (h:su (aP s y) M=some v):hB P w Γ a o v:=by
 have ad:=d5 ak aE;unfold su at h;split at h
 . rename_i rows sS
   obtain⟨jz,aHQ,rfl⟩:=dK.1 h;obtain⟨lf,rfl,rfl⟩:=QW aHQ;obtain⟨p,cap,bK,ar,af,az⟩:=W1 (P:=P) aB ad sS;have hlen:bK.length=lf.length:=by have:=af.1;simpa using this
   have qi:bK=lf.map (Value.int .u8):=by
    refine oT fun j=>?_;by_cases ap:j<lf.length
    . have bh:=(af.2.2 j [.int .u8 lf[j]] 0 (.int .u8 lf[j]) (by simp[ap]) rfl).2
      have bC:=kv bh;simp only[kY,iT,kV] at bC;have po:j<bK.length:=by omega
      rw[gg po] at bC⊢;simp only[Option.getD_some] at bC;rw[bC,gX,gg ap];rfl
    . rw[lX (by omega),lX (by simp;omega)]
   subst qi;refine⟨.string ⟨(lf.map (fun n=>UInt8.ofNat n.toNat)).toArray⟩,.str _,fun w' aj=>?_⟩;have cw:=az w' fun b q u hu=>LG hu aj;rw[ar] at cw;cases p with
   |none=>
    have:lf=[]:=by simpa[Builtin.firstCells] using cw
    subst this;have M0:ByteArray.empty=⟨#[]⟩:=rfl;simp[execOp,aA,ar,run_convert_bytes_string w' src dst e none _ _ hu he aw,Conv.bytesToString,M0]
   |some q=>
    have ag:(loadCells q (lf.map (fun n=>[V.int .u8 n])).length).run P w'=.ok (lf.map (Value.int .u8)).toArray w':=by
     simpa[Builtin.firstCells] using cw
    have gP:=run_bytesToString (P:=P) w' q _ cap lf ag;simp only[eu] at gP;have M0:ByteArray.empty.data=#[]:=rfl;simp[execOp,aA,ar,run_convert_bytes_string w' src dst e (some q) _ _ hu he aw,gP,TI]
 . cases h
theorem nextslicecap_le(yl cap:Nat)(h:cap<yl):Builtin.nextslicecap yl cap<=2*yl:=by
 have grow:∀(k c:Nat),c<=2*yl->256<=yl->Builtin.growBy yl k c<=2*yl:=by
  intro k;induction k with
  |zero=>intro c ar _;simpa[Builtin.growBy] using ar
  |succ k bu=>
   intro c ar aK;simp only[Builtin.growBy];split
   . exact ar
   . exact bu _ (by omega) aK
 unfold Builtin.nextslicecap;split
 . omega
 . split
   . omega
   . exact grow 4 cap (by omega) (by omega)
theorem PA(lU:Array Value)(n:Nat):(Builtin.zeroCells lU n).size=n*lU.size:=by simp[Builtin.zeroCells]
theorem Ll{st e ab fx:TypeId}{i:TypeInfo}{dU:Value}{bj:Value}{base p:Option Addr}{sLen sCap n c:Nat}{na new:List Value}(hu:P.underlying st=some (.slice e))(kH:P.underlying ab=some (.slice fx))(hi:P.info? e=some i)(lM:i.zero=some dU)(aHS:0<i.bytes)
 (d7:bj=.slice p n c)(Nq:∀w',w'.heap=w.heap->(Builtin.firstCells i.size sLen (.slice base sLen sCap)).run P w'=.ok na.toArray w')(mF:∀w',w'.heap=w.heap->(Builtin.firstCells i.size n bj).run P w'=.ok new.toArray w')
 (oo:(sLen+n)*(2*i.bytes)<=2^48):
 if sLen+n<=sCap then
  (Builtin.append_ #[st,ab] st #[.slice base sLen sCap,bj]).run P w=(match base with
    |some p=>((storeCells (p.add (sLen*i.size)) new).run P w).andThen fun _ aQm=>.ok (.slice base (sLen+n) sCap) aQm
    |none=>.ok (.slice base (sLen+n) sCap) w)
 else
  ∃jr,sLen+n<=jr/\(Builtin.append_ #[st,ab] st #[.slice base sLen sCap,bj]).run P w=
   .ok (.slice (some ⟨w.heap.size,0,none⟩) (sLen+n) jr) (w.drew.alloc (.cells (na.toArray++new.toArray++Builtin.zeroCells dU.cells (jr -(sLen+n))) e)):=by
 have aK:e7 P e=some i.size:=by simp[e7,hi]
 have hlen:∀w',(Builtin.lenOf bj).run P w'=.ok n w':=fun w'=>by subst d7;simp[Builtin.lenOf]
 have a_:∀w',(zeroValue e).run P w'=.ok dU w':=fun w'=>by simp[zeroValue,typeInfo,hi,lM]
 have aKm:∀w',(typeInfo e).run P w'=.ok i w':=fun w'=>by simp[typeInfo,hi]
 split
 . rename_i l8
   simp only[Builtin.append_];simp only[List.getElem?_toArray,ji,List.getElem?_cons_succ,Sem.run_bind,et hu,et kH,g6 aK,Result.andThen_ok,Sem.run_pure,jh,if_false,hlen,l8,if_true,Bool.not_false,mF w rfl];cases base with
   |none=>simp
   |some q=>simp
 . rename_i l8
   have f7:sCap<sLen+n:=by omega
   have lK:=nextslicecap_le (sLen+n) sCap f7;have NE:¬(2^48<Builtin.nextslicecap (sLen+n) sCap*i.bytes):=by
    have aa:Builtin.nextslicecap (sLen+n) sCap*i.bytes<=2*(sLen+n)*i.bytes:=jv _ lK;have af:2*(sLen+n)*i.bytes=(sLen+n)*(2*i.bytes):=by
     rw[Nat.mul_comm 2 (sLen+n),Nat.mul_assoc]
    omega
   have qe:¬(i.bytes=0):=by omega
   refine⟨(sLen+n)+w.tape w.drawn (.appendCap (sLen+n) sCap e)%(2^63 -(sLen+n)),by omega,?_⟩;simp only[Builtin.append_];simp only[List.getElem?_toArray,ji,List.getElem?_cons_succ,Sem.run_bind,et hu,et kH,g6 aK,Result.andThen_ok,Sem.run_pure,jh,if_false,hlen,l8,Bool.not_false,if_true,aKm,qe,or_false,and_false,gt_iff_lt,NE];simp only[Sem.run_bind,run_choose,Question.forced,Question.cut,jh,if_false,Result.andThen_ok,run_askRoom,World.drew_eq,Nq w.drew rfl,mF w.drew rfl,a_,newRow,run_newObj,Sem.run_pure];simp;rfl
theorem mv.append{sz:Nat}{iB r2:List (List V)}{d1 d2:List Value}(aa:mv w Γ sz iB d1)(af:mv w Γ sz r2 d2):mv w Γ sz (iB++r2) (d1++d2):=by
 obtain⟨bW,c2,eX⟩:=aa;obtain⟨b8,dw,g1⟩:=af;refine⟨by simp[bW,b8,iv],fun i r an=>?_,fun i r j x an ad=>?_⟩
 . by_cases hi:i<iB.length
   . rw[gp hi] at an;exact c2 i r an
   . rw[j_ (by omega)] at an;exact dw _ r an
 . by_cases hi:i<iB.length
   . rw[gp hi] at an
     have ap:j<sz:=by rw[<-c2 i r an];exact(bo.1 ad).1
     have bx:i*sz+j<d1.length:=by rw[bW];exact uC hi ap
     have:=eX _ _ _ _ an ad;refine⟨this.1,?_⟩;rw[List.getD_eq_getElem?_getD,gp bx,<-List.getD_eq_getElem?_getD];exact this.2
   . rw[j_ (by omega)] at an
     have:=g1 _ _ _ _ an ad;refine⟨this.1,?_⟩;have e:i*sz+j=d1.length+((i -iB.length)*sz+j):=by
      rw[bW,<-kX,<-iv,Nat.add_sub_cancel' (by omega)]
     have hle:d1.length<=i*sz+j:=by omega
     rw[List.getD_eq_getElem?_getD,j_ hle,<-List.getD_eq_getElem?_getD,show i*sz+j -d1.length=(i -iB.length)*sz+j by omega];exact this.2
theorem mv.ext{w':World}{Γ':Env}(he:Ext w Γ w' Γ'){sz:Nat}{rows:List (List V)}{bK:List Value}(h:mv w Γ sz rows bK):mv w' Γ' sz rows bK:=
 ⟨h.1,h.2.1,fun i r j x an ad=>⟨(h.2.2 i r j x an ad).1,(h.2.2 i r j x an ad).2.ext he⟩⟩
theorem mv.head{sz:Nat}{rows:List (List V)}{bK:List Value}(h:mv w Γ sz rows bK)(dB:Array Value):∀(i:Nat)(r:List V)(j:Nat)(x:V),rows[i]? =some r->r[j]? =some x->x.ku=true/\bq w Γ x ((bK.toArray++dB).getD (i*sz+j) Go.undef):=by
 intro i r j x an ad;have hi:i<rows.length:=(bo.1 an).1;have ap:j<sz:=by rw[<-h.2.1 i r an];exact(bo.1 ad).1
 have bx:i*sz+j<bK.length:=by rw[h.1];exact uC hi ap
 have:=h.2.2 i r j x an ad;refine⟨this.1,?_⟩;have e:(bK.toArray++dB).getD (i*sz+j) Go.undef=bK.getD (i*sz+j) Go.undef:=by
  simp[iq,Array.getElem?_append,bx]
 rw[e];exact this.2
theorem WO(aB:Good w Γ M){sz:Nat}{rows:List (List V)}{bK:List Value}(h:mv w Γ sz rows bK)(dB:Array Value)(T:TypeId){c:c4}(ar:c≠.nil){cap:Nat}(aD:c=.full->cap=rows.length)(hle:rows.length<=cap):
 bq (w.alloc (.cells (bK.toArray++dB) T)) (Γ.imm w.heap.size (bK.toArray++dB).size) (.slice rows c) (.slice (some ⟨w.heap.size,0,none⟩) rows.length cap):=by
 have he:=Ext.uY aB (bK.toArray++dB) T;have eN:∀i j,i<rows.length->j<sz->i*sz+j<(bK.toArray++dB).size:=fun i j hi ap=>by
  have:=uC hi ap;simp[h.1];omega
 refine .slice rows c _ 0 sz cap (fun i j=>(bK.toArray++dB).getD (i*sz+j) Go.undef) ar aD hle h.2.1 (fun i j hi ap=>?_) (fun i j hi ap=>?_) (fun i r j x an ad=>(h.2.2 i r j x an ad).1) (fun i r j x an ad=>(h.head dB i r j x an ad).2.ext he)
 . exact .inr ⟨rfl,by rw[ee];exact eN i j hi ap⟩
 . rw[ee,kB (heap_alloc_new w _)]
   exact jV (eN i j hi ap)
theorem aN_{rows:List (List V)}{c:c4}{bj:Value}(h:bq w Γ (.slice rows c) bj):bq w Γ (.slice rows .cx) bj:=by
 cases h with
 |iO _ ar=>exact .iO _ (.inr rfl)
 |lR _ _ p=>exact .lR _ (by simp) p
 |slice _ _ b o sz cap bn ar aD f7 fT ak dO ay an=>exact .slice rows .cx b o sz cap bn (by simp) (by simp) f7 fT ak dO ay an
def Env.fm(Γ:Env)(id:Nat)(l:Loc)(np:Nat->Nat->Prop):Env:={Γ with c0:=Γ.c0.set id l,S:=np}
theorem Ext.fm{w':World}{id:Nat}{l l':Loc}{np:Nat->Nat->Prop}(ag:Γ.c0[id]? =some l)(aj:l.box=false)(aq:l.ver<l'.ver)
 (ak:∀b o,Γ.S b o->np b o/\lh w' b o=lh w b o)(sG:Below Γ.h8 w w')(aKd:∀b o,b<Γ.h8->np b o->Γ.S b o):Ext w Γ w' (Γ.fm id l' np) where
 s:=ak
 c0 i m hm:=by
  by_cases hi:id=i
  . subst hi
    rw[ag] at hm;simp only[aW] at hm;subst hm;have bx:id<Γ.c0.length:=(bo.1 ag).1;exact⟨l',by simp only[Env.fm];rw[eB bx],by omega,fun e=>by omega,fun e=>by rw[aj] at e;cases e⟩
  . exact⟨m,by simp only[Env.fm];rw[dv hi];exact hm,cH _,fun _=>rfl,fun _=>rfl⟩
 cz:=rfl
 below:=sG
 r9:=aKd
theorem Good.fm(aB:Good w Γ M){w':World}{id:Nat}{l l':Loc}{np:Nat->Nat->Prop}(ag:Γ.c0[id]? =some l)(he:Ext w Γ w' (Γ.fm id l' np))(cn:∀k,k≠l'.b->k<w.heap.size->w'.heap[k]? =w.heap[k]?)
 (dj:∀(i:Nat)(m:Loc),i≠id->Γ.c0[i]? =some m->m.live=true->m.b≠l'.b/\∀o,np m.b o->Γ.S m.b o)(qe:Γ.h8<=l'.b)(ND:∀b o,np b o->∃v,w'.cell? ⟨b,o,none⟩=some v)
 {B:a1}(bU:uM w' (Γ.fm id l' np) l' B):Good w' (Γ.fm id l' np) (M.set id B):=by
 have bx:id<Γ.c0.length:=(bo.1 ag).1;have get:∀i m,(Γ.fm id l' np).c0[i]? =some m->(i=id/\m=l')∨(i≠id/\Γ.c0[i]? =some m):=by
  intro i m hm;simp only[Env.fm] at hm;by_cases hi:id=i
  . subst hi
    rw[eB bx] at hm;simp only[aW] at hm;exact .inl ⟨rfl,hm.symm⟩
  . rw[dv hi] at hm
    exact .inr ⟨gq hi,hm⟩
 refine⟨by simp[Env.fm,aB.len],fun i m qV hm ih=>?_,fun i m hm=>?_,fun i j h2 jb aa af nj j7 aj=>?_,ND,kb aB.base he.below.size,aB.yH he⟩
 . rcases get i m hm with⟨rfl,rfl⟩|⟨hi,gI⟩
   . rw[eB (by rw[<-aB.len];exact bx)] at ih
     simp only[aW] at ih;subst ih;exact bU
   . rw[dv (gq hi)] at ih
     exact(aB.eL i m qV gI ih).fN he (fun aq=>cn _ (dj i m hi gI aq).1 (aB.m7 gI aq)) (fun aq o aA=>(dj i m hi gI aq).2 o aA)
 . rcases get i m hm with⟨_,rfl⟩|⟨_,gI⟩
   . exact qe
   . exact aB.cz i m gI
 . rcases get i h2 aa with⟨rfl,rfl⟩|⟨hi,xn⟩<;>rcases get j jb af with⟨rfl,rfl⟩|⟨ap,Hy⟩
   . rfl
   . exact absurd aj.symm (dj j jb ap Hy j7).1
   . exact absurd aj (dj i h2 hi xn nj).1
   . exact aB.inj i j h2 jb xn Hy nj j7 aj
end
end Go.aL
namespace Go.aL
open Go.RowKit (Below)
section
variable{P:Program}{w:World}{Γ:Env}{M:Mem}{s:aI}{a:Act}{o:Oper}{v:V}
theorem aPb{rows:List (List V)}{c:c4}{bj:Value}(h:bq w Γ (.slice rows c) bj)(ar:c=.nil∨c=.full):∃p,bj=.slice p rows.length rows.length:=by
 cases h with
 |iO _ rz=>exact⟨none,rfl⟩
 |lR=>exact⟨_,rfl⟩
 |slice _ _ b of sz cap bn tN aD=>
  rcases ar with rfl|rfl
  . exact absurd rfl tN
  . rw[aD rfl];exact⟨_,rfl⟩
theorem ab2(aB:Good w Γ M){t ab e fx:TypeId}{i:TypeInfo}{dU cs bj:Value}{rows xr:List (List V)}{c:c4}{imm:Bool}{x:V}{ah:Mem}(hu:P.underlying t=some (.slice e))(kH:P.underlying ab=some (.slice fx))(hi:P.info? e=some i)(lM:i.zero=some dU)(rP:dU.cells.size=i.size)(aj:0<i.bytes)
 (kO:bq w Γ (.slice rows c) cs)(rx:bq w Γ x bj)(ov:eK i.size M x=some xr)(h:g0 imm i.size i.bytes (.slice rows c) xr M=some (v,ah)):
 ∃bn w' Γ',(Builtin.append_ #[t,ab] t #[cs,bj]).run P w=.ok bn w'/\bq w' Γ' v bn/\Good w' Γ' ah/\Ext w Γ w' Γ':=by
 simp only[g0] at h;cases aw:(fr i.size rows&&(decide (c=.nil)||decide (c=.full))&&decide ((rows.length+xr.length)*(2*i.bytes)<=2^48)) with
 |false=>simp[aw] at h
 |true=>
  simp only[aw,cond_true] at h;simp only[cc,Bool.or_eq_true,decide_eq_true_eq] at aw;obtain⟨⟨Ux,ar⟩,oo⟩:=aw;obtain⟨p,fd⟩:=aPb kO ar;obtain⟨iN,eX,na,a4,mM,f1⟩:=yv (P:=P) aB kO (sz:=i.size) (rows:=rows) (by simp[eK,Ux]);obtain⟨f8,g1,new,bd,hQ,f2⟩:=yv (P:=P) aB rx ov;rw[fd] at f1;have cw:=Ll (P:=P) (w:=w) (base:=p) (sCap:=rows.length) hu kH hi lM aj bd f1 f2 oo;rw[fd];by_cases z0:xr=[]
  . subst z0
    rw[if_pos (by simp)] at cw;have mF:new=[]:=List.length_eq_zero_iff.1 (by rw[hQ.1];simp);subst mF;have xN:(Builtin.append_ #[t,ab] t #[.slice p rows.length rows.length,bj]).run P w=.ok (.slice p rows.length rows.length) w:=by
     rw[cw];cases p<;>simp[storeCells]
    rw[fd] at kO;refine⟨_,w,Γ,xN,?_⟩;cases imm with
    |true=>
     simp only[fA,aW,d_] at h;obtain⟨rfl,rfl⟩:=h;exact⟨aN_ kO,aB,Ext.refl _ _⟩
    |false=>
     simp only[aW,d_] at h;obtain⟨rfl,rfl⟩:=h;exact⟨kO,aB,Ext.refl _ _⟩
  . have hlen:0<xr.length:=List.length_pos_iff.2 z0
    rw[if_neg (by omega)] at cw;obtain⟨jr,f7,cw⟩:=cw;have py:=mM.append hQ;have Br:na.toArray++new.toArray=(na++new).toArray:=by simp
    rw[Br] at cw;have fJ:=aB.drew;have zI:=Ext.drew w Γ;cases imm with
    |true=>
     simp only[aW,d_] at h;obtain⟨rfl,rfl⟩:=h;have f0:=WO fJ (py.ext zI) (Builtin.zeroCells dU.cells (jr -(rows.length+xr.length))) e (c:=.cx) (by simp) (cap:=jr) (by simp) (by simpa using f7);refine⟨_,_,_,cw,?_,fJ.uY _ e,zI.trans (Ext.uY fJ _ e)⟩;simpa using f0
    |false=>
     have a7:v=.aZ M.length 0 0 (rows.length+xr.length)/\ah=M++[.arr i.size (rows++xr) 0 0]:=by
      cases xr with
      |nil=>exact absurd rfl z0
      |cons r rs=>
       simp only[aW,d_] at h;exact⟨h.1.symm,h.2.symm⟩
     obtain⟨rfl,rfl⟩:=a7;obtain⟨aT,a2⟩:=fJ.Qq ((na++new).toArray++Builtin.zeroCells dU.cells (jr -(rows.length+xr.length))) e i.size jr (rows++xr)
      (by simp only[Array.size_append,PA,rP,List.size_toArray,py.1,dz];rw[<-iv,Nat.add_sub_cancel' f7]) (by simpa using f7) py.2.1 (fun i r j x an ad=>(py.ext zI).head _ i r j x an ad);exact⟨_,_,_,cw,OE fJ f7,aT,zI.trans a2⟩
theorem aNz{x:V}{bj:Value}(h:bq w Γ x bj)(ad:x.ku=true):bj.oneCell'=true:=by
 cases h<;>first|rfl|(simp[V.ku] at ad;done)
theorem mv.one{sz:Nat}{rows:List (List V)}{bK:List Value}(h:mv w Γ sz rows bK):∀d∈bK,d.oneCell'=true:=by
 intro d aw;obtain⟨q,aG,rfl⟩:=List.getElem_of_mem aw;have rK:q<rows.length*sz:=by rw[<-h.1];exact aG
 have fT:0<sz:=by
  rcases Nat.eq_zero_or_pos sz with a8|a8
  . subst a8;simp at rK
  . exact a8
 have hi:q/sz<rows.length:=by rw[Nat.div_lt_iff_lt_mul fT];exact rK
 have ap:q%sz<(rows[q/sz]).length:=by rw[h.2.1 (q/sz) _ (gg hi)];exact Nat.mod_lt _ fT
 obtain⟨aa,af⟩:=h.2.2 (q/sz) _ (q%sz) _ (gg hi) (gg ap);have e:q/sz*sz+q%sz=q:=by rw[Nat.mul_comm];exact Nat.div_add_mod q sz
 rw[e] at af;have:=aNz af aa;simpa[kV,aG] using this
theorem acQ(aB:Good w Γ M){id ver fz:Nat}{l:Loc}{sz:Nat}{rows:List (List V)}(ag:Γ.c0[id]? =some l)(a7:M[id]? =some (.arr sz rows ver fz)):
 Good w (Γ.fm id {l with ver:=ver+1} Γ.S) (M.set id (.arr sz rows (ver+1) fz))/\Ext w Γ w (Γ.fm id {l with ver:=ver+1} Γ.S):=by
 obtain⟨aa,a8,af,az,bh,bC,ca,dY,cp⟩:=aB.eL id l _ ag a7;have he:Ext w Γ w (Γ.fm id {l with ver:=ver+1} Γ.S):=Ext.fm ag aa (by show l.ver<ver+1;omega) (fun _ _ h=>⟨h,rfl⟩) (Below.refl _ _) (fun _ _ _ h=>h);by_cases eh:l.live=true
 . refine⟨aB.fm ag he (fun _ _ _=>rfl) (fun i m hi hm aq=>⟨fun e=>hi (aB.inj i id m l hm ag aq eh e),fun _ h=>h⟩) (aB.cz id l ag) aB.jL ⟨aa,a8,rfl,az,bh,bC,ca,dY,fun aq=>?_⟩,he⟩
   obtain⟨dj,c,T,cp,eU,fy⟩:=cp aq;exact⟨dj,c,T,cp,eU,fun i r j x an ad=>(fy i r j x an ad).ext he⟩
 . have eh:l.live=false:=by simpa using eh
   refine⟨?_,he⟩;have sS:rows=[]:=List.length_eq_zero_iff.1 (by have:=bC eh;omega);subst sS;have bx:id<Γ.c0.length:=(bo.1 ag).1;have get:∀i m,(Γ.fm id {l with ver:=ver+1} Γ.S).c0[i]? =some m->(i=id/\m={l with ver:=ver+1})∨(i≠id/\Γ.c0[i]? =some m):=by
    intro i m hm;simp only[Env.fm] at hm;by_cases hi:id=i
    . subst hi
      rw[eB bx] at hm;simp only[aW] at hm;exact .inl ⟨rfl,hm.symm⟩
    . rw[dv hi] at hm
      exact .inr ⟨gq hi,hm⟩
   refine⟨by simp[Env.fm,aB.len],fun i m qV hm ih=>?_,fun i m hm=>?_,fun i j h2 jb dx dm nj j7 aj=>?_,aB.jL,aB.base,aB.jO⟩
   . rcases get i m hm with⟨rfl,rfl⟩|⟨hi,gI⟩
     . rw[eB (by rw[<-aB.len];exact bx)] at ih
       simp only[aW] at ih;subst ih;exact⟨aa,a8,rfl,az,bh,bC,ca,dY,fun aq=>by rw[show l.live=true from aq] at eh;cases eh⟩
     . rw[dv (gq hi)] at ih
       exact(aB.eL i m qV gI ih).fN he (fun _=>rfl) (fun _ _ h=>h)
   . rcases get i m hm with⟨_,rfl⟩|⟨_,gI⟩
     . exact aB.cz id l ag
     . exact aB.cz i m gI
   . rcases get i h2 dx with⟨rfl,rfl⟩|⟨hi,xn⟩<;>rcases get j jb dm with⟨rfl,rfl⟩|⟨ap,Hy⟩
     . rfl
     . rw[show l.live=true from nj] at eh;cases eh
     . rw[show l.live=true from j7] at eh;cases eh
     . exact aB.inj i j h2 jb xn Hy nj j7 aj
theorem X7(aB:Good w Γ M){id ver:Nat}{cells:List V}{cs:Value}(a7:M[id]? =some (.vec cells ver))(kO:bq w Γ (.aZ id ver 0 cells.length) cs):
 ∃(p:Option Addr)(cap:Nat)(bK:List Value),cs=.slice p cells.length cap/\bK.length=cells.length/\(∀(j:Nat)(x:V),cells[j]? =some x->bq w Γ x (bK.getD j Go.undef))/\
  ∀w',w'.heap=w.heap->(Builtin.firstCells 1 cells.length cs).run P w'=.ok bK.toArray w':=by
 cases kO with
 |aZ _ _ _ _ l ag jE _ eA _=>
  obtain⟨aa,a8,af,bh,bC,cp⟩:=aB.eL id l _ ag a7;rcases eA af with⟨aw,a_,rfl⟩|⟨eh,f7,of,ie,rfl,i5,hs,gJ⟩
  . have ar:cells=[]:=List.length_eq_zero_iff.1 a_
    subst ar;exact⟨none,0,[],rfl,rfl,fun j x ad=>by simp at ad,fun w' _=>by simp[Builtin.firstCells]⟩
  . obtain⟨dj,c,T,cp,eU,fy⟩:=cp eh
    let bK:=(c5 cells.length).map fun q=>c.getD q Go.undef
    refine⟨_,_,bK,rfl,by simp[bK],fun j x ad=>?_,fun w' gR=>?_⟩
    . have ap:=(bo.1 ad).1
      have:bK.getD j Go.undef=c.getD j Go.undef:=by
       simp only[bK,kV];rw[gX,List.getElem?_range ap];simp
      rw[this];exact fy j x ad
    . simp only[Builtin.firstCells,kY]
      refine run_loadCells w' ⟨l.b,of,none⟩ cells.length (fun q=>c.getD q Go.undef) (fun q aG=>?_);rw[Addr.ly,tu (w:=w) (w':=w') (by rw[gR])];have No:=gJ (by omega);rw[No,Nat.zero_mul,ee,kB cp];exact jV (by omega)
theorem QA(aB:Good w Γ M){t ab e fx:TypeId}{i:TypeInfo}{dU cs bj:Value}{id ver:Nat}{cells:List V}{h6:V}{ah:Mem}(hu:P.underlying t=some (.slice e))(kH:P.underlying ab=some (.slice fx))(hi:P.info? e=some i)(lM:i.zero=some dU)(rP:dU.cells.size=i.size)(aj:0<i.bytes)
 (a7:M[id]? =some (.vec cells ver))(fT:i.size=1)(kO:bq w Γ (.aZ id ver 0 cells.length) cs)(ad:∃(f8:Option Addr)(g1:Nat)(new:List Value),bj=.slice f8 1 g1/\new.length=1/\(∀d∈new,d.oneCell'=true)/\bq w Γ h6 (new.getD 0 Go.undef)/\∀w',w'.heap=w.heap->(Builtin.firstCells i.size 1 bj).run P w'=.ok new.toArray w')(oo:(cells.length+1)*(2*i.bytes)<=2^48)
 (aq:v=.aZ id (ver+1) 0 (cells.length+1))(aHj:ah=M.set id (.vec (cells++[h6]) (ver+1))):
 ∃bn w' Γ',(Builtin.append_ #[t,ab] t #[cs,bj]).run P w=.ok bn w'/\bq w' Γ' v bn/\Good w' Γ' ah/\Ext w Γ w' Γ':=by
 subst aq aHj;obtain⟨iN,eX,na,a4,mM,aM3,f1⟩:=X7 (P:=P) aB a7 kO;obtain⟨f8,g1,new,bd,zU,nB,mf,f2⟩:=ad;rw[a4] at f1;have cw:=Ll (P:=P) (w:=w) (base:=iN) (sCap:=eX) (sLen:=cells.length) (n:=1) hu kH hi lM aj bd (by rw[fT];exact f1) f2 oo;rw[a4];have Br:na.toArray++new.toArray=(na++new).toArray:=by simp
 rw[a4] at kO;have Wg:∀(q:Nat)(z:V),(cells++[h6])[q]? =some z->(q<cells.length/\cells[q]? =some z)∨(q=cells.length/\z=h6):=fun q z a_=>by
  by_cases aG:q<cells.length
  . rw[gp aG] at a_;exact .inl ⟨aG,a_⟩
  . rw[j_ (by omega)] at a_
    have:q -cells.length=0:=by have:=(bo.1 a_).1;simp at this;omega
    rw[this] at a_;simp at a_;exact .inr ⟨by omega,a_.symm⟩
 cases kO with
 |aZ _ _ _ _ l ag jE _ eA _=>
  obtain⟨aa,a8,af,bh,bC,cp⟩:=aB.eL id l _ ag a7;have eA:=eA af;have bx:id<Γ.c0.length:=(bo.1 ag).1;by_cases l8:cells.length+1<=eX
  . rw[if_pos l8] at cw
    rcases eA with⟨aw,DF,aq⟩|⟨eh,f7,of,ie,aq,i5,hs,gJ⟩
    . simp only[Value.slice.injEq] at aq
      omega
    . simp only[Value.slice.injEq] at aq
      obtain⟨rfl,_,rfl⟩:=aq;have gJ:=gJ (by omega);simp only[Nat.zero_mul] at gJ;subst gJ;simp only[Addr.ly,ee,fT,kY] at cw;obtain⟨dj,c,T,cp,eU,fy⟩:=cp eh;obtain⟨w',aT,a2,bJ,c8,eI,eZ,iI⟩:=yD (P:=P) new c cells.length 0 w cp (by omega) nB;have he:Ext w Γ w' (Γ.fm id {l with ver:=l.ver+1} Γ.S):=Ext.fm ag aa (by show l.ver<l.ver+1;omega) (fun b q ak=>⟨ak,by
       by_cases mB:b=l.b
       . subst mB;exact absurd ak (dj q)
       . exact wg (bJ b mB)⟩) ⟨eI,eZ,iI,by omega,fun k ao=>bJ k (by have:=aB.cz id l ag;omega)⟩ (fun _ _ _ h=>h);have M7:(Γ.fm id {l with ver:=l.ver+1} Γ.S).c0[id]? =some {l with ver:=l.ver+1}:=by simp only[Env.fm];rw[eB bx]
      refine⟨.slice (some ⟨l.b,0,none⟩) (cells.length+1) eX,w',Γ.fm id {l with ver:=l.ver+1} Γ.S,?_,?_,?_,he⟩
      . rw[cw]
        have tH:(storeCells ⟨l.b,cells.length,none⟩ new).run P w=.ok () w':=aT;rw[tH];simp
      . exact .aZ _ _ _ _ {l with ver:=l.ver+1} M7 (by simp[af]) _ (fun _=>.inr ⟨eh,by show 0+(cells.length+1)<=l.cap;omega,0,eX,rfl,i5,l8,fun _=>by simp⟩) rfl
      . rw[<-af]
        refine aB.fm ag he (fun k ao _=>bJ k ao) (fun q m aG hm aq=>⟨fun e=>aG (aB.inj q id m l hm ag aq eh e),fun _ h=>h⟩) (aB.cz id l ag) (fun b q ak=>?_) ⟨aa,a8,rfl,by simp;omega,bC,fun _=>⟨dj,_,T,a2,by rw[s_];exact eU,fun q z a_=>?_⟩⟩
        . obtain⟨u,ot⟩:=aB.jL b q ak
          exact⟨u,(he.mN b q ak).2.trans ot⟩
        . rw[r7 _ _ _ _ (by omega)]
          rcases Wg q z a_ with⟨aG,NL⟩|⟨rfl,rfl⟩
          . rw[if_neg (by omega)]
            exact(fy q z NL).ext he
          . rw[if_pos (by omega),show cells.length -(cells.length+0)=0 by omega]
            exact mf.ext he
  . rw[if_neg l8] at cw
    obtain⟨jr,f7,cw⟩:=cw;rw[Br] at cw;have fJ:=aB.drew;have zI:=Ext.drew w Γ;generalize xu:(na++new).toArray++Builtin.zeroCells dU.cells (jr -(cells.length+1))=JZ at cw;have HK:JZ.size=jr:=by
     rw[<-xu];simp only[Array.size_append,PA,rP,fT,List.size_toArray,dz];omega
    let l':Loc:=⟨w.heap.size,false,true,1,jr,l.ver+1⟩
    have he:Ext w Γ (w.drew.alloc (.cells JZ e)) (Γ.fm id l' Γ.S):=Ext.fm ag aa (by show l.ver<l.ver+1;omega) (fun b q ak=>⟨ak,wg (nA w.drew _ (aB.r5 ak))⟩) ((Below.refl _ _).drew.alloc aB.base _) (fun b q zE ak=>ak);refine⟨_,_,Γ.fm id l' Γ.S,cw,?_,?_,he⟩
    . exact .aZ _ _ _ _ l' (by simp only[Env.fm];rw[eB bx]) (by show ver+1<=l.ver+1;omega) _ (fun _=>.inr ⟨rfl,by show 0+_<=jr;omega,0,jr,rfl,by show 0+jr<=jr;omega,by omega,fun _=>by simp⟩) rfl
    . rw[<-af]
      refine aB.fm ag he (fun k _ ao=>nA w.drew _ ao) (fun q m aG hm aq=>⟨fun e=>?_,fun o' ei=>ei⟩) (by show Γ.h8<=w.heap.size;exact aB.base) (fun b q ak=>?_) ⟨rfl,rfl,rfl,by simpa using f7,(fun aq=>by cases aq),fun _=>⟨fun q ak=>aB.v5 q ak,JZ,e,heap_alloc_new w.drew _,HK,fun q z a_=>?_⟩⟩
      . have:=aB.m7 hm aq
        rw[show m.b=w.heap.size from e] at this;omega
      . obtain⟨u,ot⟩:=aB.jL b q ak
        exact⟨u,(tu (nA w.drew _ (aB.r5 ak))).trans ot⟩
      . have gx:∀q,q<cells.length+1->JZ.getD q Go.undef=(na++new).getD q Go.undef:=fun q aG=>by
         rw[<-xu,iq,Array.getElem?_append_left (by simp;omega)];simp[kV]
        rcases Wg q z a_ with⟨aG,NL⟩|⟨rfl,rfl⟩
        . rw[gx q (by omega)]
          have:=aM3 q z NL;rw[kV,gp (by omega)];exact(show bq w Γ z (na[q]?.getD Go.undef) from this).ext he
        . rw[gx _ (by omega),kV,j_ (by omega),mM,mS]
          have:=mf;simp only[kV] at this;exact this.ext he
theorem Good.cut{id z ver fz len:Nat}{rows:List (List V)}(aB:Good w Γ M)(a7:M[id]? =some (.arr z rows ver fz))(ao:fz<=len)(ag:len<=rows.length):Good w Γ (M.set id (.arr z (rows.take len) ver fz)):=by
 refine⟨by rw[eR];exact aB.len,fun i m B hm bU=>?_,aB.cz,aB.inj,aB.jL,aB.base,aB.jO⟩;have bx:id<M.length:=(bo.1 a7).1;have get:∀(i:Nat)(r:List V),(rows.take len)[i]? =some r->rows[i]? =some r:=fun i r an=>by
  have hi:i<len:=by have:=(bo.1 an).1;rw[iS] at this;omega
  rwa [hA hi] at an
 by_cases hi:id=i
 . subst hi
   rw[eB bx] at bU;simp only[aW] at bU;subst bU;obtain⟨aa,a8,af,az,bh,bC,ca,dY,cp⟩:=aB.eL id m _ hm a7;refine⟨aa,a8,af,by rw[iS];omega,by rw[iS];omega,bC,fun i r an=>ca i r (get i r an),fun i r j x an ad=>dY i r j x (get i r an) ad,fun aq=>?_⟩;obtain⟨dj,c,T,cp,eU,fy⟩:=cp aq;exact⟨dj,c,T,cp,eU,fun i r j x an ad=>fy i r j x (get i r an) ad⟩
 . rw[dv hi] at bU
   exact aB.eL i m B hm bU
theorem Qz(aB:Good w Γ M){t ab e fx:TypeId}{i:TypeInfo}{dU cs bj:Value}{xr rows:List (List V)}{id hX fz:Nat}(hu:P.underlying t=some (.slice e))(kH:P.underlying ab=some (.slice fx))(hi:P.info? e=some i)(lM:i.zero=some dU)(rP:dU.cells.size=i.size)(aj:0<i.bytes)
 (a7:M[id]? =some (.arr i.size rows hX fz))(oo:(rows.length+xr.length)*(2*i.bytes)<=2^48)(kO:bq w Γ (.aZ id hX 0 rows.length) cs)
 (ad:∃p cap bK,bj=.slice p xr.length cap/\mv w Γ i.size xr bK/\∀w',w'.heap=w.heap->(Builtin.firstCells i.size xr.length bj).run P w'=.ok bK.toArray w'):
 ∃bn w' Γ',(Builtin.append_ #[t,ab] t #[cs,bj]).run P w=.ok bn w'/\bq w' Γ' (.aZ id (hX+1) 0 (rows.length+xr.length)) bn/\Good w' Γ' (M.set id (.arr i.size (rows++xr) (hX+1) fz))/\Ext w Γ w' Γ':=by
 obtain⟨iN,eX,na,a4,mM,f1⟩:=yv (P:=P) aB kO (sz:=i.size) (rows:=rows) (by simp[eK,a7]);obtain⟨f8,g1,new,bd,hQ,f2⟩:=ad;rw[a4] at f1;have cw:=Ll (P:=P) (w:=w) (base:=iN) (sCap:=eX) hu kH hi lM aj bd f1 f2 oo;rw[a4];have py:=mM.append hQ;have Br:na.toArray++new.toArray=(na++new).toArray:=by simp
 rw[a4] at kO;cases kO with
 |aZ _ _ _ _ l ag jE _ eA _=>
  obtain⟨aa,a8,af,az,bh,bC,ca,dY,cp⟩:=aB.eL id l _ ag a7;have eA:=eA af;have bx:id<Γ.c0.length:=(bo.1 ag).1;by_cases z0:xr=[]
  . subst z0
    have mF:new=[]:=List.length_eq_zero_iff.1 (by rw[hQ.1];simp);subst mF;have l8:rows.length+([]:List (List V)).length<=eX:=by
     rcases eA with⟨aw,DF,aq⟩|⟨eh,f7,of,ie,aq,i5,hs,gJ⟩
     . simp only[Value.slice.injEq] at aq;simp;omega
     . simp only[Value.slice.injEq] at aq;simp;omega
    rw[if_pos l8] at cw;have xN:(Builtin.append_ #[t,ab] t #[.slice iN rows.length eX,bj]).run P w=.ok (.slice iN rows.length eX) w:=by
     rw[cw];cases iN<;>simp[storeCells]
    obtain⟨aT,a2⟩:=acQ aB ag a7;simp only[fA,gY,iT];refine⟨_,w,_,xN,?_,aT,a2⟩;exact .aZ _ _ _ _ {l with ver:=l.ver+1} (by simp only[Env.fm];rw[af,eB bx]) (by simp[af]) _ (fun _=>eA) rfl
  . have H7:0<xr.length:=List.length_pos_iff.2 z0
    by_cases l8:rows.length+xr.length<=eX
    . rw[if_pos l8] at cw
      rcases eA with⟨aw,DF,aq⟩|⟨eh,f7,of,ie,aq,i5,hs,gJ⟩
      . simp only[Value.slice.injEq] at aq
        omega
      . simp only[Value.slice.injEq] at aq
        obtain⟨rfl,_,rfl⟩:=aq;have gJ:=gJ (by omega);simp only[Nat.zero_mul] at gJ;subst gJ;simp only[Addr.ly,ee] at cw;obtain⟨dj,c,T,cp,eU,fy⟩:=cp eh;have zU:new.length=xr.length*i.size:=hQ.1;have aRo:rows.length*i.size+new.length<=c.size:=by
         rw[zU,eU,a8,<-iv];exact jv _ (by omega)
        obtain⟨w',aT,a2,bJ,c8,eI,eZ,iI⟩:=yD (P:=P) new c (rows.length*i.size) 0 w cp (by omega) hQ.one;have m1:fz*l.sz<=rows.length*i.size:=by rw[a8];exact jv _ az
        have he:Ext w Γ w' (Γ.fm id {l with ver:=l.ver+1} Γ.S):=Ext.fm ag aa (by show l.ver<l.ver+1;omega) (fun b q ak=>⟨ak,by
         by_cases mB:b=l.b
         . subst mB
           have aG:=(dj q).1 ak;refine OO cp a2 ?_;rw[kB a2,kB cp];have vw:q<c.size:=by omega
           rw[jV (by rw[s_];exact vw),jV vw,r7 _ _ _ _ (by omega),if_neg (by omega)]
         . exact wg (bJ b mB)⟩) ⟨eI,eZ,iI,by omega,fun k ao=>bJ k (by have:=aB.cz id l ag;omega)⟩ (fun _ _ _ h=>h);have M7:(Γ.fm id {l with ver:=l.ver+1} Γ.S).c0[id]? =some {l with ver:=l.ver+1}:=by simp only[Env.fm];rw[eB bx]
        refine⟨.slice (some ⟨l.b,0,none⟩) (rows.length+xr.length) eX,w',Γ.fm id {l with ver:=l.ver+1} Γ.S,?_,?_,?_,he⟩
        . rw[cw]
          have tH:(storeCells ⟨l.b,rows.length*i.size,none⟩ new).run P w=.ok () w':=aT;rw[tH];simp
        . exact .aZ _ _ _ _ {l with ver:=l.ver+1} M7 (by simp[af]) _ (fun _=>.inr ⟨eh,by show 0+(rows.length+xr.length)<=l.cap;omega,0,eX,rfl,i5,l8,fun _=>by simp⟩) rfl
        . rw[<-af]
          refine aB.fm ag he (fun k ao _=>bJ k ao) (fun q m aG hm aq=>⟨fun e=>aG (aB.inj q id m l hm ag aq eh e),fun _ h=>h⟩) (aB.cz id l ag) (fun b q ak=>?_) ⟨aa,a8,rfl,by simp;omega,by simp;omega,bC,fun q r an=>by rw[a8];exact py.2.1 q r an,fun q r j x an ad=>(py.2.2 q r j x an ad).1,fun _=>⟨dj,_,T,a2,by rw[s_];exact eU,fun q r j x an ad=>?_⟩⟩
          . obtain⟨u,ot⟩:=aB.jL b q ak
            exact⟨u,(he.mN b q ak).2.trans ot⟩
          . show bq w' _ x ((r6 c (rows.length*i.size+0) new).getD (q*l.sz+j) Go.undef)
            rw[show q*l.sz+j=q*i.size+j by rw[a8],r7 _ _ _ _ (by omega)];by_cases aG:q<rows.length
            . rw[gp aG] at an
              have ap:j<i.size:=by rw[<-a8,<-ca q r an];exact(bo.1 ad).1
              have:=uC aG ap;rw[if_neg (by omega)];have:=fy q r j x an ad;rw[show q*l.sz+j=q*i.size+j by rw[a8]] at this;exact this.ext he
            . rw[j_ (by omega)] at an
              have Dv:q -rows.length<xr.length:=(bo.1 an).1;have ap:j<i.size:=by rw[<-hQ.2.1 _ r an];exact(bo.1 ad).1
              have aRE:=uC Dv ap;have e:q*i.size+j=rows.length*i.size+((q -rows.length)*i.size+j):=by
               rw[<-kX,<-iv,Nat.add_sub_cancel' (by omega)]
              rw[if_pos (by omega),show q*i.size+j -(rows.length*i.size+0)=(q -rows.length)*i.size+j by omega];exact(hQ.2.2 _ _ _ _ an ad).2.ext he
    . rw[if_neg l8] at cw
      obtain⟨jr,f7,cw⟩:=cw;rw[Br] at cw;have fJ:=aB.drew;have zI:=Ext.drew w Γ;generalize xu:(na++new).toArray++Builtin.zeroCells dU.cells (jr -(rows.length+xr.length))=cells at cw;have HK:cells.size=jr*i.size:=by
       rw[<-xu];simp only[Array.size_append,PA,rP,List.size_toArray,py.1,dz];rw[<-iv,Nat.add_sub_cancel' f7]
      let l':Loc:=⟨w.heap.size,false,true,i.size,jr,l.ver+1⟩
      let np:Nat->Nat->Prop:=fun b q=>Γ.S b q∨(b=w.heap.size/\q<fz*i.size)
      have aRx:fz*i.size<=cells.size:=by rw[HK];exact jv _ (by omega)
      have he:Ext w Γ (w.drew.alloc (.cells cells e)) (Γ.fm id l' np):=Ext.fm ag aa (by show l.ver<l.ver+1;omega) (fun b q ak=>⟨.inl ak,wg (nA w.drew _ (aB.r5 ak))⟩) ((Below.refl _ _).drew.alloc aB.base _) (fun b q zE ak=>by
       rcases ak with ak|⟨rfl,_⟩
       . exact ak
       . have:=aB.base;omega);refine⟨_,_,Γ.fm id l' np,cw,?_,?_,he⟩
      . exact .aZ _ _ _ _ l' (by simp only[Env.fm];rw[eB bx]) (by show hX+1<=l.ver+1;omega) _ (fun _=>.inr ⟨rfl,by show 0+_<=jr;omega,0,jr,rfl,by show 0+jr<=jr;omega,by omega,fun _=>by simp⟩) rfl
      . rw[<-af]
        refine aB.fm ag he (fun k _ ao=>nA w.drew _ ao) (fun q m aG hm aq=>⟨fun e=>?_,fun o' ei=>?_⟩) (by show Γ.h8<=w.heap.size;exact aB.base) (fun b q ak=>?_) ⟨rfl,rfl,rfl,by simp;omega,by simpa using f7,(fun aq=>by cases aq),py.2.1,fun q r j x an ad=>(py.2.2 q r j x an ad).1,fun _=>⟨fun q=>⟨fun ak=>?_,fun ak=>.inr ⟨rfl,ak⟩⟩,cells,e,heap_alloc_new w.drew _,HK,fun q r j x an ad=>?_⟩⟩
        . have:=aB.m7 hm aq
          rw[show m.b=w.heap.size from e] at this;omega
        . rcases ei with ei|⟨zE,_⟩
          . exact ei
          . have:=aB.m7 hm aq;omega
        . rcases ak with ak|⟨rfl,ak⟩
          . obtain⟨u,ot⟩:=aB.jL b q ak
            exact⟨u,(tu (nA w.drew _ (aB.r5 ak))).trans ot⟩
          . exact⟨cells.getD q Go.undef,(kB (o:=q) (heap_alloc_new w.drew (.cells cells e))).trans (jV (by omega))⟩
        . rcases ak with ak|⟨_,ak⟩
          . exact absurd ak (aB.v5 q)
          . exact ak
        . have:=(py.head (Builtin.zeroCells dU.cells (jr -(rows.length+xr.length))) q r j x an ad).2
          rw[xu] at this;exact this.ext he
theorem abZ(aB:Good w Γ M){t ab e fx:TypeId}{i:TypeInfo}{dU cs bj:Value}{xr:List (List V)}{id ver start len:Nat}{imm:Bool}{x:V}{ah:Mem}(hu:P.underlying t=some (.slice e))(kH:P.underlying ab=some (.slice fx))(hi:P.info? e=some i)(lM:i.zero=some dU)(rP:dU.cells.size=i.size)(aj:0<i.bytes)
 (kO:bq w Γ (.aZ id ver start len) cs)(rx:bq w Γ x bj)(ov:eK i.size M x=some xr)(h:g0 imm i.size i.bytes (.aZ id ver start len) xr M=some (v,ah)):
 ∃bn w' Γ',(Builtin.append_ #[t,ab] t #[cs,bj]).run P w=.ok bn w'/\bq w' Γ' v bn/\Good w' Γ' ah/\Ext w Γ w' Γ':=by
 have bl:start=0:=by
  cases start with
  |zero=>rfl
  |succ k=>simp[g0] at h
 subst bl;simp only[g0] at h;split at h
 . rename_i z rows hX fz a7
   have ad:=yv (P:=P) aB rx ov;cases ar:(z==i.size&&hX==ver&&len==rows.length&&decide ((rows.length+xr.length)*(2*i.bytes)<=2^48)) with
   |true=>
    rw[ar] at h;simp only[cond_true,aW,d_] at h;obtain⟨rfl,rfl⟩:=h;simp only[cc,beq_iff_eq,decide_eq_true_eq] at ar;obtain⟨⟨⟨a_,hL⟩,hlen⟩,oo⟩:=ar;subst hL a_ hlen;exact Qz aB hu kH hi lM rP aj a7 oo kO ad
   |false=>
    rw[ar] at h;simp only[cond_false] at h;obtain⟨aw,h⟩:=fg h;simp only[d_] at h;obtain⟨rfl,rfl⟩:=h;simp only[cc,beq_iff_eq,decide_eq_true_eq] at aw;obtain⟨⟨⟨⟨a_,hL⟩,hlen⟩,m1⟩,oo⟩:=aw;subst hL a_;have bx:id<M.length:=(bo.1 a7).1;have Bs:(rows.take len).length=len:=by rw[iS];omega
    have:=Qz (xr:=xr) (rows:=rows.take len) (aB.cut a7 m1 hlen) hu kH hi lM rP aj (by rw[eB bx]) (by rw[Bs];exact oo) (by rw[Bs];exact kO) ad;rw[List.set_set,Bs] at this;exact this
 . rename_i cells hX a7
   split at h
   . rename_i h6
     obtain⟨aw,h⟩:=fg h;simp only[d_] at h;obtain⟨rfl,rfl⟩:=h;simp only[cc,beq_iff_eq,decide_eq_true_eq] at aw;obtain⟨⟨⟨a_,hL⟩,hlen⟩,oo⟩:=aw;subst hL hlen;obtain⟨f8,g1,new,bd,hQ,f2⟩:=yv (P:=P) aB rx ov;have nB:=hQ.one;rw[a_] at hQ;have mf:=(hQ.2.2 0 [h6] 0 h6 rfl rfl).2;simp only[Nat.zero_mul,iT] at mf;exact QA aB hu kH hi lM rP aj a7 a_ kO ⟨f8,g1,new,bd,by have:=hQ.1;simpa using this,nB,mf,f2⟩ oo rfl rfl
   . cases h
 . cases h
theorem ab1(aB:Good w Γ M){t ab e fx:TypeId}{i:TypeInfo}{dU cs bj:Value}{a x h6 v:V}{ah:Mem}(hu:P.underlying t=some (.slice e))(kH:P.underlying ab=some (.slice fx))(hi:P.info? e=some i)(lM:i.zero=some dU)(rP:dU.cells.size=i.size)(aj:0<i.bytes)
 (kO:bq w Γ a cs)(rx:bq w Γ x bj)(ad:J2 x M=some h6)(h:Fp i.size i.bytes a h6 M=some (v,ah)):
 ∃bn w' Γ',(Builtin.append_ #[t,ab] t #[cs,bj]).run P w=.ok bn w'/\bq w' Γ' v bn/\Good w' Γ' ah/\Ext w Γ w' Γ':=by
 unfold Fp at h;split at h
 . rename_i id ver len
   split at h
   . rename_i cells hX a7
     obtain⟨aw,h⟩:=fg h;simp only[d_] at h;obtain⟨rfl,rfl⟩:=h;simp only[cc,beq_iff_eq,decide_eq_true_eq] at aw;obtain⟨⟨⟨a_,hL⟩,hlen⟩,oo⟩:=aw;subst hL hlen;unfold J2 at ad;split at ad
     . rename_i aRV iQ
       split at ad
       . rename_i y j7 MC
         obtain⟨k_,Vg⟩:=fg ad;subst Vg;simp only[cc,beq_iff_eq] at k_;obtain⟨NJ,dO⟩:=k_;subst NJ;obtain⟨f8,g1,new,bd,zU,an,f2⟩:=X7 (P:=P) aB MC rx;have pw:=an 0 _ rfl;refine QA aB hu kH hi lM rP aj a7 a_ kO ⟨f8,g1,new,bd,zU,fun d aw=>?_,pw,by rw[a_];exact f2⟩ oo rfl rfl;have aK:new=[new.getD 0 Go.undef]:=by
          match new,zU with
          |[z],_=>rfl
         rw[aK] at aw;simp only[gZ] at aw;rw[aw];exact Vm pw dO
       . cases ad
     . cases ad
   . cases h
 . cases h
end
end Go.aL
namespace Go.aL
open Go.RowKit (Below)
section
variable{P:Program}{w:World}{Γ:Env}{M:Mem}{s:aI}{a:Act}{o:Oper}{v:V}
theorem LK(sz:Nat):∀(n:Nat)(cs:List V)(i:Nat)(r:List V),(sx sz n cs)[i]? =some r->i<n/\r=(cs.drop (i*sz)).take sz
 |0,cs,i,r,h=>by simp[sx] at h
 |n+1,cs,i,r,h=>by
  simp only[sx] at h;cases i with
  |zero=>simp at h;exact⟨by omega,by simpa using h.symm⟩
  |succ i=>
   obtain⟨aa,af⟩:=LK sz n (cs.drop sz) i r (by simpa using h);refine⟨by omega,?_⟩;rw[af,List.drop_drop,iv,Nat.one_mul,Nat.add_comm]
theorem Bk(sz:Nat):∀(n:Nat)(cs:List V),(sx sz n cs).length=n
 |0,cs=>rfl
 |n+1,cs=>by simp[sx,Bk sz n]
theorem WN{z:List V}{lU:Array Value}(a_:ek w Γ z lU)(a8:0<z.length):∀(n:Nat),ek w Γ (r0 n z) ((Array.range (n*z.length)).map (lU[·%lU.size]!)):=by
 intro n;have hlen:∀n,(r0 n z).length=n*z.length:=by
  intro n;induction n with
  |zero=>simp[r0]
  |succ n bu=>simp[r0,bu,iv];omega
 have gx:∀(n j:Nat),j<n*z.length->(r0 n z)[j]? =z[j%z.length]? :=by
  intro n;induction n with
  |zero=>intro j ap;simp at ap
  |succ n bu=>
   intro j ap;simp only[r0];by_cases h:j<z.length
   . rw[gp h,Nat.mod_eq_of_lt h]
   . rw[j_ (by omega),bu _ (by rw[iv] at ap;omega)]
     congr 1
     exact(Nat.mod_eq_sub_mod (by omega)).symm
 refine⟨by simp[hlen],fun j x ad=>?_⟩;have ap:j<n*z.length:=by rw[<-hlen];exact(bo.1 ad).1
 rw[gx n j ap] at ad;have:=a_.2 _ _ ad;have hm:j%lU.size<lU.size:=Nat.mod_lt _ (by rw[a_.1];exact a8);rw[<-a_.1] at this;simpa[iq,ap,hm] using this
theorem Mc:∀(cX:List (Nat×Nat×V))(cells cs:List V),pb cells cX=some cs->cs.length=cells.length
 |[],cells,cs,h=>by simp only[pb,aW] at h;rw[h]
 |(off,size,x)::cX,cells,cs,h=>by
  simp only[pb] at h;split at h
  . rename_i xs _
    cases aw:(xs.length==size&&decide (off+size<=cells.length)) with
    |false=>simp[aw] at h
    |true=>
     simp only[aw,cond_true] at h;rw[Mc cX _ cs h,Ki]
  . cases h
theorem acM(aB:Good w Γ M)(ak:ep w Γ s a.tmps){t e:TypeId}{len n:Nat}{d3:Array (Nat×Operand)}{z:List V}{cX:List (Nat×Nat×aU)}(aA:o.op=.buildSlice t len d3)(hu:P.underlying t=some (.slice e))(aK:e7 P e=some n)(a_:kT P e=some z)
 (qv:z.length=n)(qn:0<n)(NE:len*n<=2^20)(fj:s2 n d3.toList=some cX)(h:wR (r0 len z) n len (kk s cX)=some v):h_ P w Γ a o v M:=by
 unfold wR at h;split at h
 . rename_i cs aD
   obtain⟨ay,rfl⟩:=fg h;obtain⟨dU,vN,vM⟩:=yT a_;have vL:=(vM w Γ).1;have xT:dU.cells.size=n:=by rw[vL.1,qv]
   have f0:=WN vL (by omega) len;rw[qv] at f0;obtain⟨d,aa,af⟩:=FV (Kc ak fj) f0 aD;have u7:(d3.map fun p=>(p.1,a.eval p.2)).toList=d3.toList.map fun p=>(p.1,a.eval p.2):=by simp
   have aHY:cs.length=len*n:=by
    rw[<-af.1];have:=Mc _ _ _ aD;rw[af.1,this,f0.1.symm];simp
   have py:mv w Γ n (sx n len cs) d.toList:=by
    refine⟨by rw[Bk];simpa[aHY] using af.1,fun i r an=>?_,fun i r j x an ad=>?_⟩
    . obtain⟨hi,rfl⟩:=LK n len cs i r an
      have:=uC (sz:=n) hi qn;have:(i+1)*n<=len*n:=jv _ hi;rw[iv] at this;simp;omega
    . obtain⟨hi,rfl⟩:=LK n len cs i r an
      have ap:j<n:=by
       have:=(bo.1 ad).1;simp at this;omega
      rw[hA ap,kW] at ad;refine⟨uX ay _ x ad,?_⟩;have:=af.2 _ x ad;simpa[iq,kV] using this
   have eA:=WO aB py #[] e (c:=.full) (by simp) (cap:=len) (fun _=>by rw[Bk]) (by rw[Bk];exact cH _);simp only[Array.append_empty,Bk,Array.toArray_toList] at eA;refine⟨_,_,_,?_,.inl ⟨_,rfl,eA⟩,aB.uY d e,Ext.uY aB d e⟩;have C2:¬(len*n>2^24):=by
    have:(2:Nat)^20<=2^24:=by decide
    omega
   simp only[execOp,aA,Instr.buildSlice,Sem.run_bind,et hu,Result.andThen_ok,g6 aK,C2,if_false,Sem.run_ite,Sem.run_pure,vN];by_cases i9:len*n=0
   . rw[if_pos i9]
     have he:((Array.range (len*n)).map ((#[]:Array Value)[·%(#[]:Array Value).size]!))=((Array.range (len*n)).map (dU.cells[·%dU.cells.size]!)):=by rw[i9];simp
     simp only[Result.andThen_ok,he,u7,aa,Sem.run_bind,newRow,run_newObj,Sem.run_pure];rfl
   . rw[if_neg i9]
     simp only[Result.andThen_ok,u7,aa,Sem.run_bind,newRow,run_newObj,Sem.run_pure];rfl
 . cases h
theorem acN(aB:Good w Γ M)(ak:ep w Γ s a.tmps){t e:TypeId}{len n:Nat}{d3:Array (Nat×Operand)}{z:List V}{cX:List (Nat×Nat×aU)}{ah:Mem}(aA:o.op=.buildSlice t len d3)(hu:P.underlying t=some (.slice e))(aK:e7 P e=some n)(a_:kT P e=some z)
 (qv:z.length=n)(qn:n=1)(NE:len*n<=2^20)(fj:s2 n d3.toList=some cX)(h:wT (r0 len z) len (kk s cX) M=some (v,ah)):h_ P w Γ a o v ah:=by
 unfold wT at h;split at h
 . rename_i cs aD
   simp only[aW,d_] at h;obtain⟨rfl,rfl⟩:=h;obtain⟨dU,vN,vM⟩:=yT a_;have vL:=(vM w Γ).1;have xT:dU.cells.size=n:=by rw[vL.1,qv]
   have f0:=WN vL (by omega) len;rw[qv] at f0;obtain⟨d,aa,af⟩:=FV (Kc ak fj) f0 aD;have u7:(d3.map fun p=>(p.1,a.eval p.2)).toList=d3.toList.map fun p=>(p.1,a.eval p.2):=by simp
   have h0:d.size=len*n:=by
    rw[af.1,Mc _ _ _ aD,f0.1.symm];simp
   have dg:cs.length=len:=by rw[<-af.1,h0,qn,kY]
   have he:=Ext.o0 aB (.cells d e) (wN w.heap.size 1 len);have fJ:Good (w.alloc (.cells d e)) (Γ.more (wN w.heap.size 1 len)) (M++[.vec cs 0]):=
    aB.o0 _ _ rfl _ ⟨rfl,rfl,rfl,(by show cs.length<=len;omega),(fun aq=>by cases aq),fun _=>⟨fun o=>aB.v5 o,d,e,heap_alloc_new w _,(by show d.size=len;rw[h0,qn,kY]),fun j x ad=>(af.2 j x ad).ext he⟩⟩;refine⟨_,_,_,?_,.inl ⟨_,rfl,OE aB (w':=_) (sz:=1) (cap:=len) (cH _)⟩,fJ,he⟩;have C2:¬(len*n>2^24):=by
    have:(2:Nat)^20<=2^24:=by decide
    omega
   simp only[execOp,aA,Instr.buildSlice,Sem.run_bind,et hu,Result.andThen_ok,g6 aK,C2,if_false,Sem.run_ite,Sem.run_pure,vN];by_cases i9:len*n=0
   . rw[if_pos i9]
     have he:((Array.range (len*n)).map ((#[]:Array Value)[·%(#[]:Array Value).size]!))=((Array.range (len*n)).map (dU.cells[·%dU.cells.size]!)):=by rw[i9];simp
     simp only[Result.andThen_ok,he,u7,aa,Sem.run_bind,newRow,run_newObj,Sem.run_pure];rfl
   . rw[if_neg i9]
     simp only[Result.andThen_ok,u7,aa,Sem.run_bind,newRow,run_newObj,Sem.run_pure];rfl
 . cases h
theorem ab0(aB:Good w Γ M)(ak:ep w Γ s a.tmps){t ab e fx:TypeId}{i:TypeInfo}{imm:Bool}{x y:Operand}{dh hh:aU}{ah:Mem}(aA:o.op=.call ⟨.builtin .append,#[x,y],#[t,ab]⟩) (hu:P.underlying t=some (.slice e)) (kH:P.underlying ab=some (.slice fx)) (hi:P.info? e=some i) (aj:0<i.bytes)
 (a_:PB P e i.size=true) (ad:b4 x=some dh) (aE:b4 y=some hh) (h:dX imm i.size i.bytes (aP s dh) (aP s hh) M=some (v,ah)):h_ P w Γ a o v ah:=by
 have rx:=d5 ak ad;have hV:=d5 ak aE;have lM:∃dU,i.zero=some dU/\dU.cells.size=i.size:=by
  unfold PB kT at a_;rw[hi] at a_;cases Vi:i.zero with
  |none=>simp[Vi] at a_
  |some dU=>
   refine⟨dU,rfl,?_⟩;simp only[Vi] at a_;split at a_
   . rename_i z dg
     have:=(FE (w:=w) (Γ:=Γ) dg).1;simp only[Array.length_toList,beq_iff_eq] at this a_;omega
   . cases a_
 obtain⟨dU,lM,xT⟩:=lM;unfold dX at h;split at h
 . rename_i xr ov
   have key:∃bn w' Γ',(Builtin.append_ #[t,ab] t #[a.eval x,a.eval y]).run P w=.ok bn w'/\bq w' Γ' v bn/\Good w' Γ' ah/\Ext w Γ w' Γ':=by
    generalize aq:aP s dh=q at rx h;cases q with
    |slice rows c=>exact ab2 aB hu kH hi lM xT aj rx hV ov h
    |aZ id ver start len=>exact abZ aB (imm:=imm) hu kH hi lM xT aj rx hV ov h
    |_=>simp[g0] at h
   obtain⟨bn,w',Γ',aa,af,az,bh⟩:=key;refine⟨_,w',Γ',?_,.inl ⟨bn,rfl,af⟩,az,bh⟩;have fY:(Builtin.append_ #[t,ab] o.type #[a.eval x,a.eval y]).run P w=.ok bn w':=aa;simp only[execOp,aA,resolve,Sem.run_bind,Sem.run_pure,Result.andThen_ok,invoke,builtin];simp only[List.map_toArray,hY,lq];simp only[fY,Result.andThen_ok]
 . split at h
   . rename_i h6 mf
     obtain⟨bn,w',Γ',aa,af,az,bh⟩:=ab1 (P:=P) aB hu kH hi lM xT aj rx hV mf h;refine⟨_,w',Γ',?_,.inl ⟨bn,rfl,af⟩,az,bh⟩;have fY:(Builtin.append_ #[t,ab] o.type #[a.eval x,a.eval y]).run P w=.ok bn w':=aa;simp only[execOp,aA,resolve,Sem.run_bind,Sem.run_pure,Result.andThen_ok,invoke,builtin];simp only[List.map_toArray,hY,lq];simp only[fY,Result.andThen_ok]
   . cases h
end
end Go.aL
namespace Go.aL
open Go.RowKit (Below)
def v0:TypeDesc->Option fE
 |.bool=>some .bool
 |.int _=>some .int
 |.string=>some .str
 |_=>none
section
variable{P:Program}{w:World}{Γ:Env}{M:Mem}{s:aI}{a:Act}{o:Oper}{v:V}
theorem Vr{t:TypeId}{c:fE}(h:mh P t=some c):∃d,P.underlying t=some d/\v0 d=some c:=by
 unfold mh at h;split at h<;>simp only[aW,reduceCtorEq] at h<;>subst h
 . rename_i hu;exact⟨_,hu,rfl⟩
 . rename_i k hu;exact⟨_,hu,rfl⟩
 . rename_i hu;exact⟨_,hu,rfl⟩
theorem acT(p q:List UInt8):((⟨p.toArray⟩:ByteArray)==⟨q.toArray⟩)=decide (p=q):=by
 by_cases h:p=q
 . subst h
   simp only[decide_true];exact(Go.MapKept.bytes_beq _ _).2 rfl
 . simp only[h,decide_false]
   cases aj:((⟨p.toArray⟩:ByteArray)==⟨q.toArray⟩) with
   |false=>rfl
   |true=>
    have:=(Go.MapKept.bytes_beq _ _).1 aj;simp only[sh.injEq] at this;exact absurd (by simpa using this) h
theorem Kr{d:TypeDesc}{c:fE}(aw:v0 d=some c){x y:V}{bj df:Value}(ad:bq w Γ x bj)(aE:bq w Γ y df){b:Bool}(h:hE c x y=some b):
 Instr.sameNow d bj df=some b/\(b=true->bj=df):=by
 unfold hE at h;split at h
 . rename_i k p dk q
   obtain⟨e,rfl⟩:=fg h;simp only[decide_eq_true_eq] at e;subst e;rw[kv ad,kv aE];cases d<;>simp[v0] at aw;simp only[Instr.sameNow,if_pos];exact⟨by congr 1,fun aj=>by simp only[decide_eq_true_eq] at aj;rw[aj]⟩
 . rename_i p q
   simp only[aW] at h;subst h;rw[qP ad rfl,qP aE rfl];cases d<;>simp[v0] at aw;simp only[Instr.sameNow];exact⟨by cases p<;>cases q<;>rfl,fun aj=>by simp only[decide_eq_true_eq] at aj;rw[aj]⟩
 . rename_i p q
   simp only[aW] at h;subst h;rw[r1 ad,r1 aE];cases d<;>simp[v0] at aw;simp only[Instr.sameNow,acT];exact⟨trivial,fun aj=>by simp only[decide_eq_true_eq] at aj;rw[aj]⟩
 . cases h
theorem aDb{kt:TypeId}{d:TypeDesc}{c:fE}(hu:P.underlying kt=some d)(aw:v0 d=some c)(b:Bool)(n:Nat)(v:Value)(w':World):(Instr.checkKey b (n+1) kt v).run P w'=.ok () w':=by
 unfold Instr.checkKey;simp only[Sem.run_bind,et hu,Result.andThen];cases d<;>simp[v0] at aw<;>rfl
theorem zf{kt:TypeId}{c:fE}(h:mh P kt=some c)(b:Bool)(n:Nat)(v:Value)(w':World):(Instr.checkKey b (n+1) kt v).run P w'=.ok () w':=by
 obtain⟨d,hu,aw⟩:=Vr h;exact aDb hu aw b n v w'
theorem aC8{cA oz:List fE}{xs bH:List V}{b:Bool}(h:gG (cA++oz) xs bH=some b):
 ∃c2 dw,gG cA xs bH=some c2/\gG oz (xs.drop cA.length) (bH.drop cA.length)=some dw/\b=(c2&&dw):=by
 induction cA generalizing xs bH b with
 |nil=>exact⟨true,b,by cases xs<;>rfl,by simpa using h,rfl⟩
 |cons c cA bu=>
  obtain⟨x,n2,y,nk,c2,dw,rfl,rfl,aa,af,rfl⟩:=wX h;obtain⟨d1,d2,aT,a2,rfl⟩:=bu af;refine⟨c2&&d1,d2,?_,a2,by rw[Bool.and_assoc]⟩;show(match hE c x y,gG cA n2 nk with|some b,some d=>some (b&&d)|_,_=>none)=_;rw[aa,aT]
theorem Oq{t:TypeId}{m:Nat}(a9:kg P t=some true)(aK:e7 P t=some m){xs:List V}{cs:Array Value}(an:ek w Γ xs cs){n:Nat}(h:n+m<=xs.length):
 ∃sub:Array Value,ek w Γ ((xs.drop n).take m) sub/\∀w',(part t cs n).run P w'=.ok (.agg sub) w':=by
 refine⟨cs.extract n (n+m),⟨?_,fun j x ad=>?_⟩,fun w'=>by simp[part,vW a9,g6 aK]⟩
 . have:=an.1
   simp[this];omega
 . have ap:j<m:=by
    have:=(bo.1 ad).1;simp at this;omega
   rw[hA ap,kW] at ad;have aa:=an.2 _ _ ad;have e:(cs.extract n (n+m)).getD j Go.undef=cs.getD (n+j) Go.undef:=by
    have bx:n+j<cs.size:=by rw[an.1];exact(bo.1 ad).1
    rw[iq,iq,Array.getElem?_extract,if_pos (by omega)]
   rw[e];exact aa
theorem aC_{cA:List fE}:∀{xs bH:List V}{b:Bool},gG cA xs bH=some b->gG cA (xs.take cA.length) (bH.take cA.length)=some b:=by
 induction cA with
 |nil=>intro xs bH b h;cases xs<;>exact h
 |cons c cA bu=>
  intro xs bH b h;obtain⟨x,n2,y,nk,c2,dw,rfl,rfl,aa,af,rfl⟩:=wX h;show(match hE c x y,gG cA (n2.take cA.length) (nk.take cA.length) with|some b,some d=>some (b&&d)|_,_=>none)=_;rw[aa,bu af]
theorem aC9{cA:List fE}:∀{xs bH:List V}{b:Bool},gG cA xs bH=some b->cA.length<=xs.length/\cA.length<=bH.length:=by
 induction cA with
 |nil=>intro xs bH b _;exact⟨fR _,fR _⟩
 |cons c cA bu=>
  intro xs bH b h;obtain⟨x,n2,y,nk,c2,dw,rfl,rfl,aa,af,rfl⟩:=wX h;have:=bu af;simp only[dC];omega
theorem NS(d:Nat){xs bH:List V}{bj df:Array Value}(ad:ek w Γ xs bj)(aE:ek w Γ bH df)(w':World):∀(bR:List Field)(n:Nat)(cA:List fE)(b:Bool),vZ P n bR=some cA->gG cA (xs.drop n) (bH.drop n)=some b->
 (Op.eqFields (d+1+1) bj df bR).run P w'=.ok b w'
 |[],n,cA,b,aD,h=>by
  simp only[vZ,aW] at aD;subst aD;simp only[gG,aW] at h;subst h;simp[Op.eqFields]
 |f::bR,n,cA,b,aD,h=>by
  simp only[vZ] at aD;split at aD
  . rename_i ps
    simp only[cc,bne_iff_ne,ne_eq,beq_iff_eq] at ps;split at aD
    . rename_i k ao
      split at aD<;>simp only[aW,reduceCtorEq] at aD;rename_i oz hI pi;subst aD;obtain⟨x,n2,y,nk,c2,dw,a4,bd,aa,af,rfl⟩:=wX h;have aT:xs[n]? =some x:=by have:=congrArg (·[0]?) a4;simpa using this
      have a2:bH[n]? =some y:=by have:=congrArg (·[0]?) bd;simpa using this
      have d1:xs.drop (n+1)=n2:=by have:=congrArg (List.drop 1) a4;simpa[Nat.add_comm] using this
      have d2:bH.drop (n+1)=nk:=by have:=congrArg (List.drop 1) bd;simpa[Nat.add_comm] using this
      have bu:=NS d ad aE w' bR (n+1) oz dw pi (by rw[d1,d2];exact af);have i7:=NW ao (ad.2 _ _ aT) (aE.2 _ _ a2) aa (d+1) w';simp only[Op.eqFields,ps,ne_eq,not_false_eq_true,if_true,Sem.run_bind,sZ hI ad aT,sZ hI aE a2,Result.andThen_ok,i7,Sem.run_ite,bu];cases c2<;>simp
    . split at aD
      . rename_i gs m hu aK hI
        split at aD
        . rename_i Vt N0 aB pi
          split at aD<;>simp only[aW,reduceCtorEq] at aD;rename_i hm;simp only[cc,beq_iff_eq,lV,decide_eq_true_eq] at hm;subst aD;obtain⟨c2,dw,aa,af,rfl⟩:=aC8 h;obtain⟨cZ,e4⟩:=aC9 aa;rw[List.length_drop] at cZ e4;have bu:=NS d ad aE w' bR (n+m) N0 dw pi (by rw[hm.1.1] at af;rw[<-List.drop_drop,<-List.drop_drop];exact af);obtain⟨LR,iB,iN⟩:=Oq hI aK ad (n:=n) (by omega);obtain⟨RK,r2,f8⟩:=Oq hI aK aE (n:=n) (by omega);have ak:(Op.equalIn (d+1+1) f.type (.agg LR) (.agg RK)).run P w'=.ok c2 w':=by
           have e:P.fieldsOf f.type=gs:=by simp[Program.fieldsOf,hu]
           rw[run_equalIn_struct w' (d+1) f.type LR RK (by rw[e];exact hu) hm.2,e];have az:=aC_ aa;rw[hm.1.1] at az;exact Mb d iB r2 w' gs.toList 0 Vt c2 aB (by simpa using az)
          simp only[Op.eqFields,ps,ne_eq,not_false_eq_true,if_true,Sem.run_bind,iN,f8,Result.andThen_ok,ak,Sem.run_ite,bu];cases c2<;>simp
        . cases aD
      . cases aD
  . cases aD
theorem aLa{kt:TypeId}{cA:List fE}(ar:nH P kt=some (.cells cA)){xs bH:List V}{bj df:Array Value}(ad:ek w Γ xs bj)(aE:ek w Γ bH df){b:Bool}(h:gG cA xs bH=some b)(w':World):
 (Op.equal kt (.agg bj) (.agg df)).run P w'=.ok b w':=by
 rw[w6];unfold nH at ar;split at ar
 . cases ar
 . cases ar
 . cases ar
 . split at ar
   . rename_i bR hu
     split at ar
     . rename_i oz aD
       split at ar<;>simp only[aW,reduceCtorEq,fv.cells.injEq] at ar;rename_i ay;subst ar;have e:P.fieldsOf kt=bR:=by simp[Program.fieldsOf,hu]
       rw[run_equalIn_struct w' 9999 kt bj df (by rw[e];exact hu) (by simpa using ay),e];exact NS 9997 ad aE w' bR.toList 0 oz b aD (by simpa using h)
     . cases ar
   . rename_i n e hu
     split at ar
     . rename_i k ao hI
       split at ar<;>simp only[aW,reduceCtorEq,fv.cells.injEq] at ar;rename_i aK;subst ar;exact R0 hu ao hI (by simpa using aK) ad aE h w'
     . cases ar
   . cases ar
theorem Rt(b:Bool)(d:Nat){xs:List V}{bj:Array Value}(ad:ek w Γ xs bj)(w':World):∀(bR:List Field)(n:Nat)(cA:List fE),s9 P n bR=some cA->n+cA.length<=xs.length->
 (forIn bR PUnit.unit fun(f:Field)(_:PUnit)=>(do
   if f.name≠ "_" then Instr.checkKey b (d+1) f.type (<-part f.type bj f.offset)
   pure (ForInStep.yield PUnit.unit):Sem (ForInStep PUnit))).run P w'=.ok PUnit.unit w'
 |[],n,cA,_,_=>by simp
 |f::bR,n,cA,aD,ag=>by
  simp only[s9] at aD;split at aD
  . rename_i k oz ao hI pi
    split at aD<;>simp only[aW,reduceCtorEq] at aD;rename_i ps;simp only[cc,bne_iff_ne,ne_eq,beq_iff_eq] at ps;subst aD;simp only[dC] at ag;have aT:xs[n]? =some (xs[n]'(by omega)):=by simp
    have bu:=Rt b d ad w' bR (n+1) oz pi (by omega);simp only[List.forIn_cons,Sem.run_bind,ps,ne_eq,not_false_eq_true,if_true,sZ hI ad aT,Result.andThen_ok,zf ao,Sem.run_pure];exact bu
  . cases aD
theorem aDf{t:TypeId}{bR:Array Field}(hu:P.underlying t=some (.struct bR)){cA:List fE}(aD:s9 P 0 bR.toList=some cA)(b:Bool)(d:Nat){xs:List V}{bj:Array Value}(ad:ek w Γ xs bj)(ag:cA.length<=xs.length)(w':World):
 (Instr.checkKey b (d+1+1) t (.agg bj)).run P w'=.ok () w':=by
 rw[Instr.checkKey];simp only[Sem.run_bind,et hu,Result.andThen_ok];rw[<-Array.forIn_toList];have:=Rt b d ad w' bR.toList 0 cA aD (by omega);simp at this⊢;rw[this];rfl
theorem LI(b:Bool)(d:Nat){xs:List V}{bj:Array Value}(ad:ek w Γ xs bj)(w':World):∀(bR:List Field)(n:Nat)(cA:List fE),vZ P n bR=some cA->n+cA.length<=xs.length->
 (forIn bR PUnit.unit fun(f:Field)(_:PUnit)=>(do
   if f.name≠ "_" then Instr.checkKey b (d+1+1) f.type (<-part f.type bj f.offset)
   pure (ForInStep.yield PUnit.unit):Sem (ForInStep PUnit))).run P w'=.ok PUnit.unit w'
 |[],n,cA,_,_=>by simp
 |f::bR,n,cA,aD,ag=>by
  simp only[vZ] at aD;split at aD
  . rename_i ps
    simp only[cc,bne_iff_ne,ne_eq,beq_iff_eq] at ps;split at aD
    . rename_i k ao
      split at aD<;>simp only[aW,reduceCtorEq] at aD;rename_i oz hI pi;subst aD;simp only[dC] at ag;have aT:xs[n]? =some (xs[n]'(by omega)):=by simp
      have bu:=LI b d ad w' bR (n+1) oz pi (by omega);simp only[List.forIn_cons,Sem.run_bind,ps,ne_eq,not_false_eq_true,if_true,sZ hI ad aT,Result.andThen_ok,zf ao,Sem.run_pure];exact bu
    . split at aD
      . rename_i gs m hu aK hI
        split at aD
        . rename_i Vt N0 aB pi
          split at aD<;>simp only[aW,reduceCtorEq] at aD;rename_i hm;simp only[cc,beq_iff_eq,lV,decide_eq_true_eq] at hm;subst aD;rw[dz] at ag;obtain⟨LR,iB,iN⟩:=Oq hI aK ad (n:=n) (by omega);have ak:=aDf hu aB b d iB (by simp;omega) w';have bu:=LI b d ad w' bR (n+m) N0 pi (by omega);simp only[List.forIn_cons,Sem.run_bind,ps,ne_eq,not_false_eq_true,if_true,iN,Result.andThen_ok,ak,Sem.run_pure];exact bu
        . cases aD
      . cases aD
  . cases aD
theorem Lm:∀{cA:List fE}{xs:List V},wM cA xs=true->cA.length=xs.length
 |[],[],_=>rfl
 |[],_::_,h=>by cases h
 |_::_,[],h=>by cases h
 |c::cA,x::xs,h=>by
  simp only[wM,cc] at h;simp[Lm h.2]
theorem Rs{e:TypeId}{k:fE}(ao:mh P e=some k)(hI:kg P e=some false)(aK:e7 P e=some 1)(b:Bool)(d:Nat){xs:List V}{bj:Array Value}(ad:ek w Γ xs bj)(w':World):
 ∀(m n:Nat),n+m<=xs.length->(forIn (List.range' n m) PUnit.unit fun(i:Nat)(_:PUnit)=>(do
  Instr.checkKey b (d+1) e (<-part e bj (i*(<-sizeOf e)))
  pure (ForInStep.yield PUnit.unit):Sem (ForInStep PUnit))).run P w'=.ok PUnit.unit w'
 |0,n,_=>by simp
 |m+1,n,h=>by
  have aT:xs[n]? =some (xs[n]'(by omega)):=by simp
  have bu:=Rs ao hI aK b d ad w' m (n+1) (by omega);rw[List.range'_succ,List.forIn_cons];simp only[Sem.run_bind,g6 aK,kY,sZ hI ad aT,Result.andThen_ok,zf ao,Sem.run_pure];exact bu
theorem x3{c:fE}{x:V}(h:vX c x=true):x.vY=true:=by
 unfold vX at h;split at h<;>first|rfl|cases h
theorem NU{c:List fE}{key:V}{fG:Value}(h:kI (.cells c) key=true)(ao:bq w Γ key fG):∃xs bj,key=.agg xs/\fG=.agg bj/\ek w Γ xs bj/\wM c xs=true:=by
 cases key<;>simp only[kI,jh] at h;cases ao with
 |agg _ bj ag an=>exact⟨_,bj,rfl,rfl,⟨ag,an⟩,h⟩
theorem u2{kt:TypeId}{c:fv}(ar:nH P kt=some c)(b:Bool){key:V}{fG:Value}(jp:kI c key=true)(ao:bq w Γ key fG)(w':World):(Instr.checkKey b 10000 kt fG).run P w'=.ok () w':=by
 unfold nH at ar;split at ar
 . rename_i i8;exact zf i8 b 9999 fG w'
 . rename_i i8;exact zf i8 b 9999 fG w'
 . rename_i i8;exact zf i8 b 9999 fG w'
 . split at ar
   . rename_i bR hu
     split at ar
     . rename_i cA aD
       split at ar<;>simp only[aW,reduceCtorEq] at ar;subst ar;obtain⟨xs,bj,rfl,rfl,an,a9⟩:=NU jp ao;rw[Instr.checkKey];simp only[Sem.run_bind,et hu,Result.andThen_ok];rw[<-Array.forIn_toList];have:=LI b 9997 an w' bR.toList 0 cA aD (by have:=Lm a9;omega);simp at this⊢;rw[this];rfl
     . cases ar
   . rename_i n e hu
     split at ar
     . rename_i k i8 hI
       split at ar<;>simp only[aW,reduceCtorEq] at ar;rename_i aK;subst ar;obtain⟨xs,bj,rfl,rfl,an,a9⟩:=NU jp ao;rw[Instr.checkKey];simp only[Sem.run_bind,et hu,Result.andThen_ok];rw[Std.Legacy.Range.forIn_eq_forIn_range'];have fY:[:n].size=n:=by simp[Std.Legacy.Range.size]
       rw[fY];have:=Rs i8 hI (by simpa using aK) b 9998 an w' n 0 (by have:=Lm a9;simp at this;omega);simp at this⊢;rw[this];rfl
     . cases ar
   . cases ar
theorem Kt{x:V}{bj:Value}(h:x.vY=true)(an:bq w Γ x bj)(n:Nat):Instr.sameBits n bj bj=true:=by
 cases x<;>simp only[V.vY,jh] at h
 . rw[qP an rfl];cases n<;>simp[Instr.sameBits]
 . rw[kv an];cases n<;>simp[Instr.sameBits]
 . rw[r1 an]
   cases n<;>(simp only[Instr.sameBits];exact(Go.MapKept.bytes_beq _ _).2 rfl)
theorem Ln:∀{cA:List fE}{xs:List V},wM cA xs=true->∀(j:Nat)(x:V),xs[j]? =some x->x.vY=true
 |[],[],_,j,x,h=>by simp at h
 |[],_::_,h,_,_,_=>by cases h
 |_::_,[],h,_,_,_=>by cases h
 |c::cA,y::xs,h,j,x,ad=>by
  simp only[wM,cc] at h;cases j with
  |zero=>simp at ad;subst ad;exact x3 h.1
  |succ j=>exact Ln h.2 j x (by simpa using ad)
theorem aOI{c:fv}{key:V}(h:kI c key=true){fG:Value}(ao:bq w Γ key fG):Instr.sameBits 10000 fG fG=true:=by
 cases c with
 |cells cA=>
  obtain⟨xs,bj,rfl,rfl,an,a9⟩:=NU h ao;simp only[Instr.sameBits,beq_self_eq_true,Bool.true_and,List.all_eq_true];rintro⟨p,q⟩ pu;obtain⟨j,ap,e⟩:=List.getElem_of_mem pu;simp only[List.getElem_zip,d_] at e;obtain⟨rfl,rfl⟩:=e;have bx:j<bj.size:=by simpa using ap
  have t0:j<xs.length:=by rw[<-an.1];exact bx
  have ad:xs[j]? =some xs[j]:=by simp[t0]
  have aa:=an.2 j _ ad;have a4:bj.getD j Go.undef=bj[j]:=by simp[Array.getD,bx]
  rw[a4] at aa;simpa using Kt (Ln a9 j _ ad) aa 9999
 |bool=>exact Kt (x3 h) ao _
 |int=>exact Kt (x3 h) ao _
 |str=>exact Kt (x3 h) ao _
theorem Vn{c:fv}{key:V}(h:kI c key=true):key.qy=true:=by
 cases c with
 |cells cA=>
  cases key<;>simp only[kI,jh] at h;rename_i xs;simp only[V.qy,List.all_eq_true];intro x ad;obtain⟨j,ap,e⟩:=List.getElem_of_mem ad;exact Ln h j x (by simp[<-e,ap])
 |bool=>have:=x3 h;cases key<;>first|exact this|cases h
 |int=>have:=x3 h;cases key<;>first|exact this|cases h
 |str=>have:=x3 h;cases key<;>first|exact this|cases h
end
end Go.aL
namespace Go.aL
open Go.RowKit (Below)
section
variable{P:Program}{w:World}{Γ:Env}{M:Mem}{s:aI}{a:Act}{o:Oper}{v:V}
def tk(w:World)(Γ:Env)(l:List MapEntry)(es:List (V×V)):Prop:=
 l.length=es.length/\∀(i:Nat)(e:MapEntry)(cB:V×V),l[i]? =some e->es[i]? =some cB->bq w Γ cB.1 e.key/\bq w Γ cB.2 e.val
theorem tk.tail{e:MapEntry}{l:List MapEntry}{cB:V×V}{es:List (V×V)}(h:tk w Γ (e::l) (cB::es)):tk w Γ l es:=
 ⟨by simpa using h.1,fun i fx aLe aa af=>h.2 (i+1) fx aLe (by simpa using aa) (by simpa using af)⟩
theorem FD{c:fE}{x y:V}(h:hE c x y=some true){bj df:Value}(ad:bq w Γ x bj)(aE:bq w Γ y df):bj=df:=by
 cases c with
 |bool=>exact(Kr (d:=.bool) rfl ad aE h).2 rfl
 |int=>exact(Kr (d:=.int .i64) rfl ad aE h).2 rfl
 |str=>exact(Kr (d:=.string) rfl ad aE h).2 rfl
theorem aDa:∀{cA:List fE}{xs bH:List V},gG cA xs bH=some true->xs.length=cA.length->bH.length=cA.length->
 ∀{bj df:Array Value},ek w Γ xs bj->ek w Γ bH df->bj=df:=by
 intro cA xs bH h VI aL9 bj df ad aE;have key:∀{cA:List fE}{xs bH:List V},gG cA xs bH=some true->xs.length=cA.length->∀(j:Nat)(x:V),xs[j]? =some x->∃c y,bH[j]? =some y/\hE c x y=some true:=by
  intro cA;induction cA with
  |nil=>intro xs bH _ ag j x ap;simp at ag;subst ag;simp at ap
  |cons c cA bu=>
   intro xs bH h ag j x ap;obtain⟨AX,n2,EU,nk,c2,dw,rfl,rfl,aa,af,aj⟩:=wX h;have mz:=aj.symm;simp only[cc] at mz;rw[mz.1] at aa;rw[mz.2] at af;cases j with
   |zero=>simp at ap;subst ap;exact⟨c,EU,rfl,aa⟩
   |succ j=>
    obtain⟨cK,y,dx,dm⟩:=bu af (by simpa using ag) j x (by simpa using ap);exact⟨cK,y,by simpa using dx,dm⟩
 apply Array.ext
 . rw[ad.1,aE.1,VI,aL9]
 . intro j aa af
   have bx:j<xs.length:=by rw[<-ad.1];exact aa
   obtain⟨c,y,dx,dm⟩:=key h VI j xs[j] (by simp[bx]);have e:=FD dm (ad.2 j xs[j] (by simp[bx])) (aE.2 j y dx);simpa[Array.getD,aa,af] using e
theorem aLb{kt:TypeId}{c:fv}(ar:nH P kt=some c){key k:V}{fG df:Value}(ao:bq w Γ key fG)(aE:bq w Γ k df){b:Bool}(h:h1 c key k=some b):b=true->fG=df:=by
 intro aj;subst aj;cases c with
 |bool=>exact FD h ao aE
 |int=>exact FD h ao aE
 |str=>exact FD h ao aE
 |cells cA=>
  cases key<;>cases k<;>simp only[h1,reduceCtorEq] at h;rename_i xs bH;obtain⟨ag,h⟩:=rk h;simp only[cc,beq_iff_eq] at ag;cases ao with
  |agg _ bj t0 pA=>
   cases aE with
   |agg _ df xC qr=>
    rw[aDa h ag.1 ag.2 ⟨t0,pA⟩ ⟨xC,qr⟩]
theorem Sl{d:TypeDesc}{c:fv}(ak:∀{x y:V}{bj df:Value}{b:Bool},bq w Γ x bj->bq w Γ y df->h1 c x y=some b->Instr.sameNow d bj df=some b){key:V}{fG:Value}(ao:bq w Γ key fG):∀(l:List MapEntry)(es:List (V×V))(n:Nat),tk w Γ l es->nI c key es=true->
 (hO c key es n=none/\Instr.findNow d fG l n=some none)∨∃j e,hO c key es n=some (n+j)/\l[j]? =some e/\Instr.findNow d fG l n=some (some (n+j,e.val))
 |[],[],n,_,_=>.inl ⟨rfl,rfl⟩
 |[],cB::es,n,h,_=>by have:=h.1;simp at this
 |e::l,[],n,h,_=>by have:=h.1;simp at this
 |e::l,(k,y)::es,n,h,b7=>by
  simp only[nI,cc] at b7;obtain⟨iB,_⟩:=h.2 0 e (k,y) rfl rfl;obtain⟨b,aj⟩:=Option.isSome_iff_exists.1 b7.1;have dx:=ak ao iB aj;cases b with
  |true=>exact .inr ⟨0,e,by simp[hO,aj],rfl,by simp[Instr.findNow,dx]⟩
  |false=>
   rcases Sl ak ao l es (n+1) h.tail b7.2 with⟨aT,a2⟩|⟨j,fx,aT,a2,bJ⟩
   . exact .inl ⟨by simp[hO,aj,aT],by simp[Instr.findNow,dx,a2]⟩
   . exact .inr ⟨j+1,fx,by simp[hO,aj,aT];omega,by simpa using a2,by simp[Instr.findNow,dx,bJ];omega⟩
theorem Sj{kt:TypeId}{c:fv}(ak:∀{x y:V}{bj df:Value}{b:Bool},bq w Γ x bj->bq w Γ y df->h1 c x y=some b->∀w',(Op.equal kt bj df).run P w'=.ok b w'){key:V}{fG:Value}(ao:bq w Γ key fG)(w':World):∀(l:List MapEntry)(es:List (V×V))(n:Nat),tk w Γ l es->nI c key es=true->
 (hO c key es n=none/\(Instr.findAsking kt fG l n).run P w'=.ok none w')∨∃j e,hO c key es n=some (n+j)/\l[j]? =some e/\(Instr.findAsking kt fG l n).run P w'=.ok (some (n+j,e.val)) w'
 |[],[],n,_,_=>.inl ⟨rfl,by simp[Instr.findAsking]⟩
 |[],cB::es,n,h,_=>by have:=h.1;simp at this
 |e::l,[],n,h,_=>by have:=h.1;simp at this
 |e::l,(k,y)::es,n,h,b7=>by
  simp only[nI,cc] at b7;obtain⟨iB,_⟩:=h.2 0 e (k,y) rfl rfl;obtain⟨b,aj⟩:=Option.isSome_iff_exists.1 b7.1;have dx:=ak ao iB aj w';cases b with
  |true=>exact .inr ⟨0,e,by simp[hO,aj],rfl,by simp[Instr.findAsking,dx]⟩
  |false=>
   rcases Sj ak ao w' l es (n+1) h.tail b7.2 with⟨aT,a2⟩|⟨j,fx,aT,a2,bJ⟩
   . exact .inl ⟨by simp[hO,aj,aT],by simp[Instr.findAsking,dx,a2]⟩
   . exact .inr ⟨j+1,fx,by simp[hO,aj,aT];omega,by simpa using a2,by simp[Instr.findAsking,dx,bJ];omega⟩
theorem yd{c:fv}{key:V}:∀(es:List (V×V))(n:Nat),(hO c key es n=none->rT c key es=none/\∀x,oB c key x es=es++[(key,x)])/\
 ∀i,hO c key es n=some (n+i)->∃k y,es[i]? =some (k,y)/\rT c key es=some y/\(h1 c key k).getD false=true/\∀x,oB c key x es=es.set i (key,x)
 |[],n=>⟨fun _=>⟨rfl,fun _=>rfl⟩,fun i h=>by simp[hO] at h⟩
 |(k,y)::es,n=>by
  obtain⟨aKR,aKS⟩:=yd (c:=c) (key:=key) es (n+1);cases aj:(h1 c key k).getD false with
  |true=>
   refine⟨fun h=>by simp[hO,aj] at h,fun i h=>?_⟩;simp[hO,aj] at h;subst h;exact⟨k,y,rfl,by simp[rT,aj],aj,fun x=>by simp[oB,aj]⟩
  |false=>
   refine⟨fun h=>?_,fun i h=>?_⟩
   . simp only[hO,aj,cond_false] at h
     obtain⟨dx,dm⟩:=aKR h;exact⟨by simp[rT,aj,dx],fun x=>by simp[oB,aj,dm]⟩
   . simp only[hO,aj,cond_false] at h
     have hi:∃eO,i=eO+1:=by
      cases i with
      |zero=>
       exfalso;have:∀(es:List (V×V))(m q:Nat),hO c key es m=some q->m<=q:=by
        intro es;induction es with
        |nil=>intro m q h;simp[hO] at h
        |cons cB es bu=>
         intro m q h;obtain⟨dk,hh⟩:=cB;simp only[hO] at h;cases mz:(h1 c key dk).getD false with
         |true=>rw[mz] at h;simp at h;omega
         |false=>rw[mz] at h;have:=bu (m+1) q (by simpa using h);omega
       have:=this es (n+1) _ h;omega
      |succ eO=>exact⟨eO,rfl⟩
     obtain⟨eO,rfl⟩:=hi;obtain⟨dk,hh,dx,dm,hc,s3⟩:=aKS eO (by rw[h];congr 1;omega);exact⟨dk,hh,by simpa using dx,by simp[rT,aj,dm],hc,fun x=>by simp[oB,aj,s3]⟩
theorem aLc{kt:TypeId}{k:fE}(h:mh P kt=some k){c:fv}(ar:nH P kt=some c):∃d,P.underlying kt=some d/\v0 d=some k/\∀x y,h1 c x y=hE k x y:=by
 obtain⟨d,aw,ao⟩:=Vr h;refine⟨d,aw,ao,?_⟩;unfold nH at ar;rw[h] at ar;cases k<;>simp only[aW] at ar<;>subst ar<;>intro x y<;>rfl
theorem FW{kt:TypeId}{c:fv}(ar:nH P kt=some c){key:V}{fG:Value}(ao:bq w Γ key fG)(l:List MapEntry)(es:List (V×V))(h:tk w Γ l es)(b7:nI c key es=true):
 (hO c key es 0=none/\∀w',(Instr.findKey kt fG l).run P w'=.ok none w')∨
 ∃j e,hO c key es 0=some j/\l[j]? =some e/\e.key=fG/\∀w',(Instr.findKey kt fG l).run P w'=.ok (some (j,e.val)) w':=by
 have same:∀(j:Nat)(e:MapEntry),hO c key es 0=some j->l[j]? =some e->e.key=fG:=fun j e aa af=>by
  obtain⟨k,y,dx,_,hc,_⟩:=(yd (c:=c) (key:=key) es 0).2 j (by simpa using aa);obtain⟨b,aj⟩:∃b,h1 c key k=some b:=by
   cases aG:h1 c key k with
   |none=>rw[aG] at hc;simp at hc
   |some b=>exact⟨b,rfl⟩
  rw[aj] at hc;simp only[Option.getD_some] at hc;exact(aLb ar ao (h.2 j e (k,y) af dx).1 aj hc).symm
 cases zR:mh P kt with
 |some k=>
  obtain⟨d,aw,fi,heq⟩:=aLc zR ar;rcases Sl (d:=d) (c:=c) (fun ad aE h=>(Kr fi ad aE (by rw[<-heq];exact h)).1) ao l es 0 h b7 with⟨aT,a2⟩|⟨j,e,aT,a2,bJ⟩
  . exact .inl ⟨aT,fun w'=>Go.MapKept.run_findKey aw a2⟩
  . rw[ee] at aT bJ
    exact .inr ⟨j,e,aT,a2,same j e aT a2,fun w'=>Go.MapKept.run_findKey aw bJ⟩
 |none=>
  have xu:∃cA d,c=.cells cA/\P.underlying kt=some d/\(∀x y,Instr.sameNow d x y=none):=by
   unfold nH at ar;rw[zR] at ar;simp only at ar;split at ar
   . rename_i bR hu
     split at ar
     . split at ar<;>simp only[aW,reduceCtorEq] at ar
       exact⟨_,_,ar.symm,hu,fun x y=>rfl⟩
     . cases ar
   . rename_i n e hu
     split at ar
     . split at ar<;>simp only[aW,reduceCtorEq] at ar
       exact⟨_,_,ar.symm,hu,fun x y=>rfl⟩
     . cases ar
   . cases ar
  obtain⟨cA,d,rfl,hu,qo⟩:=xu;have ak:∀{x y:V}{bj df:Value}{b:Bool},bq w Γ x bj->bq w Γ y df->h1 (.cells cA) x y=some b->∀w',(Op.equal kt bj df).run P w'=.ok b w':=by
   intro x y bj df b ad aE kq w';cases x<;>cases y<;>simp only[h1,reduceCtorEq] at kq;obtain⟨_,kq⟩:=rk kq;cases ad with
   |agg _ bj t0 pA=>
    cases aE with
    |agg _ df xC qr=>exact aLa ar ⟨t0,pA⟩ ⟨xC,qr⟩ kq w'
  have run:∀w',(Instr.findKey kt fG l).run P w'=(match l with|[]=>.ok none w'|_=>(Instr.findAsking kt fG l 0).run P w'):=fun w'=>by
   unfold Instr.findKey;simp only[Sem.run_bind,et hu,Result.andThen_ok];cases l with
   |nil=>simp[Instr.findNow]
   |cons e l=>simp[Instr.findNow,qo]
  have aM:=fun w'=>Sj (P:=P) (kt:=kt) (c:=.cells cA) ak ao w' l es 0 h b7;have W4:∀w',(Instr.findKey kt fG l).run P w'=(Instr.findAsking kt fG l 0).run P w':=fun w'=>by
   rw[run w'];cases l with
   |nil=>simp[Instr.findAsking]
   |cons e l=>rfl
  cases hi:hO (.cells cA) key es 0 with
  |none=>
   refine .inl ⟨rfl,fun w'=>?_⟩;rcases aM w' with⟨_,a2⟩|⟨j,e,aT,_,_⟩
   . rw[W4,a2]
   . rw[hi] at aT;cases aT
  |some j=>
   have eg:∀w',∃e,l[j]? =some e/\(Instr.findKey kt fG l).run P w'=.ok (some (j,e.val)) w':=fun w'=>by
    rcases aM w' with⟨aT,_⟩|⟨j',e,aT,a2,bJ⟩
    . rw[hi] at aT;cases aT
    . rw[hi,ee] at aT
      simp only[aW] at aT;subst aT;exact⟨e,a2,by rw[W4,bJ,ee]⟩
   obtain⟨e,he,_⟩:=eg w;refine .inr ⟨j,e,rfl,he,same j e hi he,fun w'=>?_⟩;obtain⟨fx,tO,an⟩:=eg w';rw[he] at tO;simp only[aW] at tO;subst tO;exact an
theorem Yv{t:TypeId}{z:V}(h:kT P t=some [z])(ag:As P t=true):∃dU:Value,(∀w',(zeroValue t).run P w'=.ok dU w')/\∀(w:World)(Γ:Env),bq w Γ z dU:=by
 obtain⟨dU,aa,af⟩:=yT h;refine⟨dU,aa,fun w Γ=>?_⟩;obtain⟨az,_⟩:=af w Γ;have a_:=aa w;have ar:dU.cells=#[dU]:=by
  unfold As at ag;split at ag
  . rename_i i hi
    have e:i.zero=some dU:=by
     simp[zeroValue,typeInfo,hi] at a_;split at a_<;>simp_all
    rw[e] at ag;cases dU<;>simp at ag<;>rfl
  . cases ag
 rw[ar] at az;have:=az.2 0 z rfl;simpa using this
theorem JW(aB:Good w Γ M){id:Nat}{es:List (V×V)}(a7:M[id]? =some (.map es)){bn:Value}(an:bq w Γ (.map id) bn):
 ∃l c9,Γ.c0[id]? =some l/\l.live=true/\(∀o,¬Γ.S l.b o)/\l.box=true/\bn=.map (some l.b)/\w.heap[l.b]? =some (.map c9 es.length)/\tk w Γ c9.toList es/\
  (∀(i:Nat)(cB:V×V),es[i]? =some cB->cB.1.qy=true/\cB.2.iK=true)/\(∀(i:Nat)(e:MapEntry),c9[i]? =some e->e.born=i):=by
 cases an with
 |map _ l ag aj aq=>
  obtain⟨aa,af,az,c9,clock,bh,bC,ca,dY⟩:=aB.eL id l _ ag a7;subst dY;have J_:∀(i:Nat)(cB:V×V),es[i]? =some cB->∃e,c9[i]? =some e:=fun i cB hi=>by
   have:i<c9.size:=by rw[bC];exact(bo.1 hi).1
   exact⟨c9[i],by simp[this]⟩
  refine⟨l,c9,ag,af,az,aa,rfl,bh,⟨by simpa using bC,fun i e cB he ao=>?_⟩,fun i cB ao=>?_,fun i e he=>?_⟩
  . have:=ca i e cB (by simpa using he) ao
    exact⟨this.2.2.1,this.2.2.2.1⟩
  . obtain⟨e,he⟩:=J_ i cB ao
    have:=ca i e cB he ao;exact⟨this.1,this.2.1⟩
  . have hi:i<es.length:=by rw[<-bC];exact(lp.1 he).1
    exact(ca i e es[i] he (gg hi)).2.2.2.2
theorem aL1(aB:Good w Γ M)(ak:ep w Γ s a.tmps){t kt e:TypeId}{m k:Operand}{e6 dk:aU}{ok:Bool}{c:fv}{z:V}(aA:o.op=.lookup t m k ok)(hu:P.underlying t=some (.map kt e))(hm:b4 m=some e6)(ao:b4 k=some dk)
 (ar:nH P kt=some c)(a_:kT P e=some [z])(ag:As P e=true)(h:oA c [z] false ok (aP s e6) (aP s dk) M=some v):hB P w Γ a o v:=by
 have oJ:=d5 ak hm;have iC:=d5 ak ao;obtain⟨dU,vK,t_⟩:=Yv a_ ag;simp only[oA,FF] at h;have jp:kI c (aP s dk)=true:=by
  cases aj:kI c (aP s dk) with
  |true=>rfl
  |false=>simp[m9,aj] at h
 have fin:∀(es:Array MapEntry)(r:Option V),m9 c M (aP s e6) (aP s dk)=some r->
  (a.eval m=.map none/\es=#[]∨∃b clock,a.eval m=.map (some b)/\∀w',Below w.heap.size w w'->w'.heap[b]? =some (.map es clock))->
  (r=none/\(∀w',(Instr.findKey kt (a.eval k) es.toList).run P w'=.ok none w')∨∃y j aP,r=some y/\(∀w',(Instr.findKey kt (a.eval k) es.toList).run P w'=.ok (some (j,aP)) w')/\bq w Γ y aP)->hB P w Γ a o v:=by
  intro es r an sK aD;rw[an] at h;have run:∀q w',(Instr.findKey kt (a.eval k) es.toList).run P w'=.ok q w'->Below w.heap.size w w'->(Instr.lookup t (a.eval m) (a.eval k) ok).run P w'=
   .ok (match q with|some (_,v)=>(if ok then .tuple #[v,.bool true] else v)|none=>(if ok then .tuple #[dU,.bool false] else dU)) w':=by
   intro q w' aG aj;unfold Instr.lookup;rcases sK with⟨m3,rfl⟩|⟨b,clock,m3,cn⟩
   . have rK:(Instr.findKey kt (a.eval k) []).run P w'=.ok q w':=aG
     cases q with
     |none=>simp[et hu,Result.andThen,m3,u2 ar _ jp iC,rK,vK]
     |some q=>simp[et hu,Result.andThen,m3,u2 ar _ jp iC,rK]
   . cases q with
     |none=>simp[et hu,Result.andThen,m3,Go.MapKept.run_getObj_map (cn w' aj),u2 ar _ jp iC,aG,vK]
     |some q=>simp[et hu,Result.andThen,m3,Go.MapKept.run_getObj_map (cn w' aj),u2 ar _ jp iC,aG]
  rcases aD with⟨rfl,aD⟩|⟨y,j,EW,rfl,aD,hV⟩
  . simp only[aW] at h
    subst h;refine⟨if ok then .tuple #[dU,.bool false] else dU,?_,fun w' aj=>by simp[execOp,aA,run _ _ (aD w') aj]⟩;cases ok with
    |false=>exact t_ w Γ
    |true=>
     refine .tuple _ _ rfl fun j x ad=>?_;match j with
     |0=>simp at ad;subst ad;exact t_ w Γ
     |1=>simp at ad;subst ad;exact .bool _
     |j+2=>simp at ad
  . simp only[aW] at h
    subst h;refine⟨if ok then .tuple #[EW,.bool true] else EW,?_,fun w' aj=>by simp[execOp,aA,run _ _ (aD w') aj]⟩;cases ok with
    |false=>exact hV
    |true=>
     refine .tuple _ _ rfl fun j x ad=>?_;match j with
     |0=>simp at ad;subst ad;exact hV
     |1=>simp at ad;subst ad;exact .bool _
     |j+2=>simp at ad
 cases aD:m9 c M (aP s e6) (aP s dk) with
 |none=>rw[aD] at h;simp at h
 |some r=>
  have Db:=aD;unfold m9 at aD;obtain⟨_,aD⟩:=rk aD;split at aD
  . rename_i aK
    rw[aK] at oJ;simp only[aW] at aD;subst aD;have:a.eval m=.map none:=by generalize a.eval m=q at oJ;cases oJ;rfl
    refine fin #[] none Db (.inl ⟨this,rfl⟩) (.inl ⟨rfl,fun w'=>?_⟩);rcases FW ar iC [] [] ⟨rfl,fun i e cB aa=>by simp at aa⟩ rfl with⟨_,g⟩|⟨j,e,g,_⟩
    . exact g w'
    . simp[hO] at g
  . rename_i id aK
    rw[aK] at oJ;split at aD
    . rename_i es a7
      obtain⟨Df,rfl⟩:=fg aD;obtain⟨l,c9,ag,aq,dj,aj,rC,cn,kF,ay,_⟩:=JW aB a7 oJ;have bx:=aB.m7 ag aq;refine fin c9 _ Db (.inr ⟨l.b,es.length,rC,fun w' mz=>by rw[mz.block _ bx];exact cn⟩) ?_;rcases FW ar iC c9.toList es kF Df with⟨aT,a2⟩|⟨j,e,aT,a2,bJ,c8⟩
      . exact .inl ⟨((yd es 0).1 aT).1,a2⟩
      . obtain⟨qA,y,dx,dm,_,_⟩:=(yd (c:=c) (key:=aP s dk) es 0).2 j (by simpa using aT)
        exact .inr ⟨y,j,e.val,dm,c8,(kF.2 j e (qA,y) a2 dx).2⟩
    . cases aD
  . cases aD
theorem En(aB:Good w Γ M){id:Nat}{es sB:List (V×V)}{l:Loc}{c9 w3:Array MapEntry}(ag:Γ.c0[id]? =some l)(aq:l.live=true)(aj:l.box=true)(dj:∀o,¬Γ.S l.b o)(cn:w.heap[l.b]? =some (.map c9 es.length))
 (fT:w3.size=sB.length)(eg:∀(i:Nat)(e:MapEntry)(cB:V×V),w3[i]? =some e->sB[i]? =some cB->cB.1.qy=true/\cB.2.iK=true/\bq w Γ cB.1 e.key/\bq w Γ cB.2 e.val/\e.born=i):
 Good {w with heap:=w.heap.setIfInBounds l.b (.map w3 sB.length)} Γ (M.set id (.map sB))/\Ext w Γ {w with heap:=w.heap.setIfInBounds l.b (.map w3 sB.length)} Γ:=by
 have e0:=Go.MapKept.heap_set (o':=Obj.map w3 sB.length) cn;have he:Ext w Γ {w with heap:=w.heap.setIfInBounds l.b (.map w3 sB.length)} Γ:=Ext.write aB ag e0.2 (by simp) rfl rfl rfl (fun o' ei=>absurd ei (dj o'));exact⟨aB.write ag aq he e0.2 ⟨aj,aq,dj,w3,sB.length,e0.1,fT,fun i e cB aa af=>by
  obtain⟨dx,dm,hc,s3,Kj⟩:=eg i e cB aa af;exact⟨dx,dm,hc.ext he,s3.ext he,Kj⟩,rfl⟩,he⟩
theorem RY{c9:Array MapEntry}{es:List (V×V)}(kF:tk w Γ c9.toList es)(ay:∀(i:Nat)(cB:V×V),es[i]? =some cB->cB.1.qy=true/\cB.2.iK=true)(od:∀(i:Nat)(e:MapEntry),c9[i]? =some e->e.born=i)
 {key x:V}{fG bj:Value}(l_:key.qy=true)(z1:x.iK=true)(iC:bq w Γ key fG)(rx:bq w Γ x bj):
 (c9.push {key:=fG,val:=bj,born:=es.length}).size=(es++[(key,x)]).length/\∀(i:Nat)(e:MapEntry)(cB:V×V),(c9.push {key:=fG,val:=bj,born:=es.length})[i]? =some e->(es++[(key,x)])[i]? =some cB->
   cB.1.qy=true/\cB.2.iK=true/\bq w Γ cB.1 e.key/\bq w Γ cB.2 e.val/\e.born=i:=by
 have vm:c9.size=es.length:=by simpa using kF.1
 refine⟨by simp[vm],fun i fx cB aa af=>?_⟩;rw[Array.getElem?_push] at aa;split at aa
 . rename_i hi
   simp only[aW] at aa;subst aa;rw[hi,vm,List.getElem?_concat_length] at af;simp only[aW] at af;subst af;exact⟨l_,z1,iC,rx,by rw[hi,vm]⟩
 . have hi:i<c9.size:=(lp.1 aa).1
   rw[gp (by omega)] at af;obtain⟨iN,f8⟩:=ay i cB af;obtain⟨dx,dm⟩:=kF.2 i fx cB (by simpa using aa) af;exact⟨iN,f8,dx,dm,od i fx aa⟩
theorem L0{c9:Array MapEntry}{es:List (V×V)}(kF:tk w Γ c9.toList es)(ay:∀(i:Nat)(cB:V×V),es[i]? =some cB->cB.1.qy=true/\cB.2.iK=true)(od:∀(i:Nat)(e:MapEntry),c9[i]? =some e->e.born=i)
 {j:Nat}{e:MapEntry}(ap:c9[j]? =some e)(f:MapEntry->MapEntry)(aD:(f e).born=e.born){key x:V}(l_:key.qy=true)(z1:x.iK=true)(iC:bq w Γ key (f e).key)(rx:bq w Γ x (f e).val):
 (c9.modify j f).size=(es.set j (key,x)).length/\∀(i:Nat)(e:MapEntry)(cB:V×V),(c9.modify j f)[i]? =some e->(es.set j (key,x))[i]? =some cB->
   cB.1.qy=true/\cB.2.iK=true/\bq w Γ cB.1 e.key/\bq w Γ cB.2 e.val/\e.born=i:=by
 have vm:c9.size=es.length:=by simpa using kF.1
 refine⟨by simp[vm],fun i fx cB aa af=>?_⟩;have ex:j<es.length:=by rw[<-vm];exact(lp.1 ap).1
 rw[Array.getElem?_modify] at aa;split at aa
 . rename_i jW
   subst jW;rw[ap] at aa;simp only[lY,aW] at aa;subst aa;rw[eB ex] at af;simp only[aW] at af;subst af;exact⟨l_,z1,iC,rx,by rw[aD];exact od j e ap⟩
 . rename_i jW
   rw[dv jW] at af;obtain⟨iN,f8⟩:=ay i cB af;obtain⟨dx,dm⟩:=kF.2 i fx cB (by simpa using aa) af;exact⟨iN,f8,dx,dm,od i fx aa⟩
theorem Xn{c:fv}{key:V}(jp:kI c key=true){fG:Value}(iC:bq w Γ key fG)(w':World):(Instr.keyThatStays fG fG).run P w'=.ok fG w':=by
 simp[Instr.keyThatStays,aOI jp iC]
theorem aMq(aB:Good w Γ M)(ak:ep w Γ s a.tmps){t kt e:TypeId}{m k x:Operand}{e6 dk dh:aU}{c:fv}{ah:Mem}(aA:o.op=.mapUpdate t m k x)(hu:P.underlying t=some (.map kt e))(hm:b4 m=some e6)(ao:b4 k=some dk)(ad:b4 x=some dh)
 (ar:nH P kt=some c)(h:Av c (aP s e6) (aP s dk) (aP s dh) M=some (v,ah)):h_ P w Γ a o v ah:=by
 have oJ:=d5 ak hm;have iC:=d5 ak ao;have rx:=d5 ak ad;unfold Av at h;split at h
 . rename_i cE aa
   simp only[aW,d_] at h;obtain⟨rfl,rfl⟩:=h;unfold N_ at aa;split at aa
   . rename_i id ba
     rw[ba] at oJ;split at aa
     . rename_i es a7
       obtain⟨aj,rfl⟩:=fg aa;simp only[cc] at aj;obtain⟨⟨jp,Df⟩,z1⟩:=aj;obtain⟨l,c9,ag,aq,dj,qf,rC,cn,kF,ay,od⟩:=JW aB a7 oJ;have l_:=Vn jp;rcases FW ar iC c9.toList es kF Df with⟨aT,a2⟩|⟨j,e,aT,a2,eI,c8⟩
       . have bJ:=((yd es 0).1 aT).2
         obtain⟨dx,dm⟩:=RY kF ay od l_ z1 iC rx;rw[bJ];obtain⟨f1,f2⟩:=En aB ag aq qf dj cn dx dm;refine⟨.skip,_,Γ,?_,.inr ⟨rfl,rfl⟩,f1,f2⟩;have:(es++[(aP s dk,aP s dh)]).length=es.length+1:=by simp
         rw[this];have run:(Instr.mapUpdate t (a.eval m) (a.eval k) (a.eval x)).run P w=.ok () {w with heap:=w.heap.setIfInBounds l.b (.map (c9.push {key:=a.eval k,val:=a.eval x,born:=es.length}) (es.length+1))}:=by
          unfold Instr.mapUpdate;simp[et hu,Result.andThen,rC,Go.MapKept.run_getObj_map cn,u2 ar _ jp iC,a2 w,Go.MapKept.run_setObj_map _ cn]
         simp[execOp,aA,run]
       . obtain⟨qA,y,eZ,_,_,bJ⟩:=(yd (c:=c) (key:=aP s dk) es 0).2 j (by simpa using aT)
         have sF:c9[j]? =some e:=by simpa using a2
         obtain⟨dx,dm⟩:=L0 (x:=aP s dh) (key:=aP s dk) kF ay od sF (fun e=>{e with key:=a.eval k,val:=a.eval x}) rfl l_ z1 iC rx;rw[bJ];obtain⟨f1,f2⟩:=En aB ag aq qf dj cn dx dm;refine⟨.skip,_,Γ,?_,.inr ⟨rfl,rfl⟩,f1,f2⟩;have:(es.set j (aP s dk,aP s dh)).length=es.length:=by simp
         rw[this];have run:(Instr.mapUpdate t (a.eval m) (a.eval k) (a.eval x)).run P w=.ok () {w with heap:=w.heap.setIfInBounds l.b (.map (c9.modify j fun e=>{e with key:=a.eval k,val:=a.eval x}) es.length)}:=by
          unfold Instr.mapUpdate;simp[et hu,Result.andThen,rC,Go.MapKept.run_getObj_map cn,u2 ar _ jp iC,c8 w,sF,eI,Xn jp iC,Go.MapKept.run_setObj_map _ cn]
         simp[execOp,aA,run]
     . cases aa
   . cases aa
 . cases h
theorem aMl(aB:Good w Γ M)(ak:ep w Γ s a.tmps){t kt e:TypeId}{m k:Operand}{e6 dk:aU}{c:fv}{z:V}{ah:Mem}(aA:o.op=.mapEntry t m k)(hu:P.underlying t=some (.map kt e))(hm:b4 m=some e6)(ao:b4 k=some dk)
 (ar:nH P kt=some c)(a_:kT P e=some [z])(aJq:As P e=true)(aKC:z.iK=true)(h:ul c z (aP s e6) (aP s dk) M=some (v,ah)):h_ P w Γ a o v ah:=by
 have oJ:=d5 ak hm;have iC:=d5 ak ao;obtain⟨dU,vK,t_⟩:=Yv a_ aJq;unfold ul at h;split at h
 . rename_i id ba
   rw[ba] at oJ;split at h
   . rename_i es a7
     obtain⟨aj,h⟩:=rk h;simp only[cc] at aj;obtain⟨jp,Df⟩:=aj;obtain⟨l,c9,ag,aq,dj,qf,rC,cn,kF,ay,od⟩:=JW aB a7 oJ;have l_:=Vn jp;have J_:∀{kS:World}{EY:Env}{y:V}{EW:Value}(n:Nat),bq kS EY y EW->bq kS EY (.tuple [y,.int .i64 n]) (.tuple #[EW,.int .i64 n]):=fun n aE=>by
      refine .tuple _ _ rfl fun j x ad=>?_;match j with
      |0=>simp at ad;subst ad;exact aE
      |1=>simp at ad;subst ad;exact .int _ _
      |j+2=>simp at ad
     rcases FW ar iC c9.toList es kF Df with⟨aT,a2⟩|⟨j,e,aT,a2,eI,c8⟩
     . rw[aT] at h
       simp only[aW,d_] at h;obtain⟨rfl,rfl⟩:=h;obtain⟨dx,dm⟩:=RY kF ay od l_ aKC iC (t_ w Γ);obtain⟨f1,f2⟩:=En aB ag aq qf dj cn dx dm;refine⟨.value (.tuple #[dU,.int .i64 es.length]),_,Γ,?_,.inl ⟨_,rfl,J_ _ (t_ _ _)⟩,f1,f2⟩;have:(es++[(aP s dk,z)]).length=es.length+1:=by simp
       rw[this];have run:(Instr.mapEntry t (a.eval m) (a.eval k)).run P w=.ok (.tuple #[dU,.int .i64 es.length]) {w with heap:=w.heap.setIfInBounds l.b (.map (c9.push {key:=a.eval k,val:=dU,born:=es.length}) (es.length+1))}:=by
        unfold Instr.mapEntry;simp[et hu,Result.andThen,rC,Go.MapKept.run_getObj_map cn,u2 ar _ jp iC,a2 w,vK,Go.MapKept.run_setObj_map _ cn,goInt]
       simp[execOp,aA,run]
     . rw[aT] at h
       obtain⟨qA,y,eZ,_,_,_⟩:=(yd (c:=c) (key:=aP s dk) es 0).2 j (by simpa using aT);simp only[eZ,lY,aW,d_] at h;obtain⟨rfl,rfl⟩:=h;have sF:c9[j]? =some e:=by simpa using a2
       have hV:=(kF.2 j e (qA,y) a2 eZ).2;have ow:=(ay j (qA,y) eZ).2;obtain⟨dx,dm⟩:=L0 (x:=y) (key:=aP s dk) kF ay od sF (fun e=>{e with key:=a.eval k}) rfl l_ ow iC hV;obtain⟨f1,f2⟩:=En aB ag aq qf dj cn dx dm;refine⟨.value (.tuple #[e.val,.int .i64 j]),_,Γ,?_,.inl ⟨_,rfl,J_ _ (hV.ext f2)⟩,f1,f2⟩;have:(es.set j (aP s dk,y)).length=es.length:=by simp
       rw[this];have run:(Instr.mapEntry t (a.eval m) (a.eval k)).run P w=.ok (.tuple #[e.val,.int .i64 j]) {w with heap:=w.heap.setIfInBounds l.b (.map (c9.modify j fun e=>{e with key:=a.eval k}) es.length)}:=by
        unfold Instr.mapEntry;simp[et hu,Result.andThen,rC,Go.MapKept.run_getObj_map cn,u2 ar _ jp iC,c8 w,sF,eI,Xn jp iC,Go.MapKept.run_setObj_map _ cn,goInt,od j e sF]
       simp[execOp,aA,run]
   . cases h
 . cases h
theorem Sk:∀(l:List MapEntry)(n i:Nat),(∀(j:Nat)(e:MapEntry),l[j]? =some e->e.born=n+j)->i<l.length->l.findIdx? (fun e=>(e.born:Int)==((n+i:Nat):Int))=some i
 |[],n,i,_,h=>by simp at h
 |e::l,n,i,aj,h=>by
  have a8:=aj 0 e rfl;rw[List.findIdx?_cons];cases i with
  |zero=>simp[a8]
  |succ i=>
   have bu:=Sk l (n+1) i (fun j e ap=>by have:=aj (j+1) e (by simpa using ap);omega) (by simpa using h);have cD:((e.born:Int)==((n+(i+1):Nat):Int))=false:=by simp[a8];omega
   rw[cD];have a4:((n+(i+1):Nat):Int)=((n+1+i:Nat):Int):=by omega
   rw[a4,bu];rfl
theorem aEb(aB:Good w Γ M)(ak:ep w Γ s a.tmps){t:TypeId}{m st x:Operand}{e6 O1 dh:aU}{ah:Mem}(aA:o.op=.entryStore t m st x)(hm:b4 m=some e6)(bl:b4 st=some O1)(ad:b4 x=some dh)
 (h:w2 (aP s e6) (aP s O1) (aP s dh) M=some (v,ah)):h_ P w Γ a o v ah:=by
 have oJ:=d5 ak hm;have rs:=d5 ak bl;have rx:=d5 ak ad;unfold w2 at h;split at h
 . rename_i id aK8 i ba hi
   rw[ba] at oJ;rw[hi] at rs;split at h
   . rename_i es a7
     obtain⟨aj,h⟩:=rk h;simp only[cc,decide_eq_true_eq] at aj;obtain⟨l,c9,ag,aq,dj,qf,rC,cn,kF,ay,od⟩:=JW aB a7 oJ;simp only[dK,d_] at h;obtain⟨⟨qA,y⟩,eZ,rfl,rfl⟩:=h;have vm:c9.size=es.length:=by simpa using kF.1
     have bx:i.toNat<c9.size:=by rw[vm];exact(bo.1 eZ).1
     have sF:c9[i.toNat]? =some c9[i.toNat]:=by simp[bx]
     have iC:=(kF.2 i.toNat c9[i.toNat] (qA,y) (by rw[<-Array.getElem?_toList] at sF;exact sF) eZ).1;obtain⟨dx,dm⟩:=L0 (x:=aP s dh) (key:=qA) kF ay od sF (fun e=>{e with val:=a.eval x}) rfl (ay i.toNat (qA,y) eZ).1 aj.2 iC rx;obtain⟨f1,f2⟩:=En aB ag aq qf dj cn dx dm;refine⟨.skip,_,Γ,?_,.inr ⟨rfl,rfl⟩,f1,f2⟩;have:(es.set i.toNat (qA,aP s dh)).length=es.length:=by simp
     rw[this];have ct:a.eval st=.int aK8 i:=kv rs;have aD:c9.findIdx? (fun e=>(e.born:Int)==i)=some i.toNat:=by
      have:=Sk c9.toList 0 i.toNat (fun j e ap=>by rw[od j e (by simpa using ap)];omega) (by simpa using bx);rw[ee,Int.toNat_of_nonneg aj.1] at this;have fY:c9=c9.toList.toArray:=by simp
      rw[fY,List.findIdx?_toArray];exact this
     have run:(Instr.entryStore t (a.eval m) (a.eval st) (a.eval x)).run P w=.ok () {w with heap:=w.heap.setIfInBounds l.b (.map (c9.modify i.toNat fun e=>{e with val:=a.eval x}) es.length)}:=by
      unfold Instr.entryStore;simp[Result.andThen,rC,Go.MapKept.run_getObj_map cn,ct,asInt,asIntOf,aD,Go.MapKept.run_setObj_map _ cn]
     simp[execOp,aA,run]
   . cases h
 . cases h
end
end Go.aL
