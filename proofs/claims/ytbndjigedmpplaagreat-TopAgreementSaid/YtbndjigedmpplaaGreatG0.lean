/- A part of the proof of TopAgreement: the abstract machine, the code that the statement reaches, the contracts of its functions. Part 0. The text is made short by a program. -/
import Derived.Calls
import Derived.Below
import Derived.Laws.Sem
import Derived.Laws.World
import Derived.Laws.Cells
import Derived.Deep.Quiet
import Derived.Deep.LoopGhost
import Derived.Scope
import Derived.ScopeJumps
import Derived.Laws.Strings
import Derived.Laws.StructEq
import Derived.Maps.RangeRun
import Derived.Laws.BytesString
import Derived.MapKept
import Derived.LaidEql
import Derived.Orders
import Derived.ChangeShapes
import Derived.ChangeSame
import Derived.ChangeArms
import Derived.ChangeOld
import Derived.Carry
import Derived.RowKit
import Derived.Handed
import Derived.Stop.Joined
import Derived.LaidLaws
import Derived.Attr
import Derived.Test.YtbndjigedmpplaaGreatProg
import Derived.KernelRfl
import Derived.Test.YtbndjigedmpplaaGreatR1
set_option linter.all false
set_option maxHeartbeats 8000000
set_option maxRecDepth 10000
open Array renaming getD_eq_getD_getElem?->gL,getElem?_eq_some_iff->jC
open BitVec renaming ofInt->fF
open Bool renaming and_eq_true->bL,false->ad,false_eq_true->gX,not_eq_true'->hM,or_eq_true->ln,true->U
open ByteArray renaming mk->oj
open Int renaming toNat_of_nonneg->fr
open List renaming append_nil->ez,ext_getElem?->lp,getD->jc,getElem?_append_left->et,getElem?_append_right->fH,getElem?_cons_zero->hg,getElem?_drop->h2,getElem?_eq_getElem->cG,getElem?_eq_none->jd,getElem?_eq_some_iff->az,getElem?_map->dK,getElem?_of_mem->eb,getElem?_set_ne->bo,getElem?_set_self->bY,getElem?_take_of_lt->fT,length_append->b0,length_cons->cc,length_drop->kJ,length_eq_zero_iff->lY,length_map->cz,length_nil->eu,length_set->cW,length_take->fh,map_cons->gg,map_nil->jD,mem_of_getElem?->bI,mem_singleton->dV,range->b8,replicate->d_,set_set->h3,take_of_length_le->eS
open Nat renaming add_assoc->jg,add_mul->gZ,add_zero->g_,beq->dG,blt->ha,eq_of_beq_eq_true->l2,le_refl->bk,le_trans->fJ,lt_or_ge->eT,mul_le_mul_right->hj,mul_one->jV,sub_self->hA,zero_add->dm,zero_le->c_
open Ne renaming symm->cA
open Option renaming getD_some->nz,map_eq_some_iff->cL,map_some->jE,none->ag,some->I
open Option.some renaming injEq->aC
open Prod.mk renaming injEq->dh
namespace Go.ao
open Go.RowKit (Below)
def be{p:Prop}[Decidable p](h:p):decide p=U:=_root_.decide_eq_true h
def cZ{p:Prop}[Decidable p]:(decide p=U)=p:=_root_.decide_eq_true_eq
def ax.{u} {c:Prop} {h:Decidable c} (n:¬c) {α:Sort u} {t e:α}:ite c t e=e:=_root_.if_neg n
def aF.{u} {c:Prop} {h:Decidable c} (n:c) {α:Sort u} {t e:α}:ite c t e=t:=_root_.if_pos n
theorem bi.{u} {α:Sort u} (a b:α):cond U a b=a:=rfl
def aJ{a b:Prop}(h:a)(n:¬a):b:=_root_.absurd h n
theorem eE.{u} {α:Sort u} (a b:α):cond ad a b=b:=rfl
def J{P:Prop}(h:P:=by omega):P:=h
def bR{P:Prop}[Decidable P](h:P:=by omega):decide P=U:=be h
def h8{P:Prop}[Decidable P](h:¬P:=by omega):decide P=ad:=decide_eq_false h
inductive cg where
 |nil|full|any|bF
 deriving DecidableEq
inductive V where
 |undef
 |bool (b:Bool)
 |int (k:IntKind) (n:Int)
 |str (s:List UInt8)
 |db
 |ff
 |hY
 |slice (rows:List (List V)) (c:cg)
 |eD (cells:List V)
 |cq (cells:List V)
 |cI (f:Nat) (caps:List V)
 |ptr (id off:Nat)
 |df (id ver row off:Nat)
 |an (id ver start len:Nat)
 |map (id:Nat)
 |fn (f:Nat) (caps:List V)
 |agg (cells:List V)
 |tuple (vs:List V)
 deriving Inhabited
def V.ia:V->Bool
 |.bool _|.int _ _|.str _|.db|.ff|.hY|.slice _ _|.eD _|.cq _|.cI _ _=>U
 |_=>ad
def V.gU:V->Bool
 |.undef|.agg _|.tuple _=>ad
 |_=>U
def V.qR:V->Bool
 |.bool _|.int _ _|.str _=>U
 |_=>ad
def V.nc:V->Bool
 |.agg cells=>cells.all V.qR
 |v=>v.qR
inductive au where
 |box (cells:List V)
 |aj (sz:Nat) (rows:List (List V)) (ver fz:Nat)
 |map (aeK:List (V×V))
 |b7 (cells:List V) (ver:Nat)
 |iter (mid n:Nat) (seen:List Nat)
 |dead
 deriving Inhabited
abbrev Mem:=List au
structure Loc where
 b:Nat
 box:Bool
 live:Bool
 sz:Nat
 cap:Nat
 ver:Nat
def Loc.acE(l:Loc)(start len:Nat)(v:Value):Prop:=
 (l.live=ad/\len=0/\v=.slice ag 0 0)∨(l.live=U/\start+len<=l.cap/\∃o cap,v=.slice (I ⟨l.b,o,ag⟩) len cap/\start+cap<=l.cap/\len<=cap/\(0<cap->o=start*l.sz))
structure Env where
 hl:Nat
 cf:List Loc
 S:Nat->Nat->Prop
def jt(w:World)(b o:Nat):Option Value×Option (Nat×Nat):=
 (w.cell? ⟨b,o,ag⟩,match w.heap[b]? with|some (.cells _ _ f)=>I f|_=>ag)
inductive a_(w:World)(Γ:Env):V->Value->Prop
 |undef (v:Value):a_ w Γ .undef v
 |bool (b:Bool):a_ w Γ (.bool b) (.bool b)
 |int (k:IntKind) (n:Int):a_ w Γ (.int k n) (.int k n)
 |str (s:List UInt8):a_ w Γ (.str s) (.string ⟨s.toArray⟩)
 |db:a_ w Γ .db (.pointer ag)
 |ff:a_ w Γ .ff .nilFunc
 |hY:a_ w Γ .hY (.map ag)
 |hf (c:cg) (cV:c=.nil∨c=.bF):a_ w Γ (.slice [] c) (.slice ag 0 0)
 |jv (c:cg) (cV:c≠.nil) (p:Addr):a_ w Γ (.slice [] c) (.slice (I p) 0 0)
 |slice (rows:List (List V)) (c:cg) (b o sz cap:Nat) (hT:Nat->Nat->Value) (cV:c≠.nil) (aeO:c=.full->cap=rows.length) (aeN:rows.length<=cap)
   (aeP:∀(i:Nat)(r:List V),rows[i]? =I r->r.length=sz)
   (ae:∀i j,i<rows.length->j<sz->Γ.S b (o+(i*sz+j)))
   (IL:∀i j,i<rows.length->j<sz->w.cell? ⟨b,o+(i*sz+j),ag⟩=I (hT i j))
   (pV:∀(i:Nat)(r:List V)(j:Nat)(x:V),rows[i]? =I r->r[j]? =I x->x.ia=U)
   (cy:∀(i:Nat)(r:List V)(j:Nat)(x:V),rows[i]? =I r->r[j]? =I x->a_ w Γ x (hT i j)):
   a_ w Γ (.slice rows c) (.slice (I ⟨b,o,ag⟩) rows.length cap)
 |eD (cells:List V) (b o:Nat) (hT:Nat->Value)
   (ae:∀j,j<cells.length->Γ.S b (o+j))
   (IL:∀j,j<cells.length->w.cell? ⟨b,o+j,ag⟩=I (hT j))
   (pV:∀(j:Nat)(x:V),cells[j]? =I x->x.ia=U)
   (cy:∀(j:Nat)(x:V),cells[j]? =I x->a_ w Γ x (hT j)):
   a_ w Γ (.eD cells) (.pointer (I ⟨b,o,ag⟩))
 |cq (cells:List V) (b o:Nat) (hT:Nat->Value) (IS:0<cells.length)
   (ae:∀j,j<cells.length->Γ.S b (o+j))
   (IL:∀j,j<cells.length->jt w b (o+j)=(I (hT j),I (0,0)))
   (pV:∀(j:Nat)(x:V),cells[j]? =I x->x.ia=U)
   (cy:∀(j:Nat)(x:V),cells[j]? =I x->a_ w Γ x (hT j)):
   a_ w Γ (.cq cells) (.pointer (I ⟨b,o,ag⟩))
 |cI (f:Nat) (caps:List V) (hT:Array Value) (qM:hT.size=caps.length)
   (pV:∀(j:Nat)(x:V),caps[j]? =I x->x.ia=U)
   (cy:∀(j:Nat)(x:V),caps[j]? =I x->a_ w Γ x (hT.getD j Go.undef)):a_ w Γ (.cI f caps) (.func (.func f) #[] hT)
 |ptr (id off:Nat) (l:Loc) (qM:Γ.cf[id]? =I l) (qK:l.box=U) (hs:l.live=U):a_ w Γ (.ptr id off) (.pointer (I ⟨l.b,off,ag⟩))
 |df (id ver row off:Nat) (l:Loc) (qM:Γ.cf[id]? =I l) (hs:ver<=l.ver) (p:Addr)
   (h:l.ver=ver->p=⟨l.b,row*l.sz+off,ag⟩):a_ w Γ (.df id ver row off) (.pointer (I p))
 |an (id ver start len:Nat) (l:Loc) (qM:Γ.cf[id]? =I l) (hs:ver<=l.ver) (v:Value)
   (h:l.ver=ver->l.acE start len v) (cV:v.oneCell'=U):a_ w Γ (.an id ver start len) v
 |map (id:Nat) (l:Loc) (qM:Γ.cf[id]? =I l) (qK:l.box=U) (hs:l.live=U):a_ w Γ (.map id) (.map (I l.b))
 |fn (f:Nat) (caps:List V) (hT:Array Value) (qM:hT.size=caps.length)
   (cy:∀(j:Nat)(x:V),caps[j]? =I x->a_ w Γ x (hT.getD j Go.undef)):a_ w Γ (.fn f caps) (.func (.func f) #[] hT)
 |agg (cells:List V) (hT:Array Value) (qM:hT.size=cells.length)
   (cy:∀(j:Nat)(x:V),cells[j]? =I x->a_ w Γ x (hT.getD j Go.undef)):a_ w Γ (.agg cells) (.agg hT)
 |tuple (vs:List V) (hT:Array Value) (qM:hT.size=vs.length)
   (cy:∀(j:Nat)(x:V),vs[j]? =I x->a_ w Γ x (hT.getD j Go.undef)):a_ w Γ (.tuple vs) (.tuple hT)
def dz(w:World)(Γ:Env)(b:List V)(a:Array Value):Prop:=
 a.size=b.length/\∀(j:Nat)(x:V),b[j]? =I x->a_ w Γ x (a.getD j Go.undef)
structure Ext(w:World)(Γ:Env)(w':World)(Γ':Env):Prop where
 s:∀b o,Γ.S b o->Γ'.S b o/\jt w' b o=jt w b o
 cf:∀(i:Nat)(l:Loc),Γ.cf[i]? =I l->∃l',Γ'.cf[i]? =I l'/\l.ver<=l'.ver/\(l'.ver=l.ver->l'=l)/\(l.box=U->l'=l)
 ek:Γ'.hl=Γ.hl
 below:Below Γ.hl w w'
 nr:∀b o,b<Γ.hl->Γ'.S b o->Γ.S b o
def GT(_:World):Prop:=True
def Ext.ij{w a:World}{Γ c:Env}(h:Ext w Γ a c)(b o:Nat)(ae:Γ.S b o):c.S b o/\a.cell? ⟨b,o,ag⟩=w.cell? ⟨b,o,ag⟩:=⟨(h.s b o ae).1,congrArg Prod.fst (h.s b o ae).2⟩
def Ext.refl(w:World)(Γ:Env):Ext w Γ w Γ:=
 ⟨λ_ _ h=>⟨h,rfl⟩,λ_ l h=>⟨l,h,bk _,λ_=>rfl,λ_=>rfl⟩,rfl,Below.refl _ _,λ_ _ _ h=>h⟩
def Ext.trans{d dD f:World}{g j m:Env}(h:Ext d g dD j)(k:Ext dD j f m):Ext d g f m where
 s b o ae:=⟨(k.s b o (h.s b o ae).1).1,((k.s b o (h.s b o ae).1).2).trans (h.s b o ae).2⟩
 cf i l v:=by
  obtain⟨c,t,y,q,n⟩:=h.cf i l v;obtain⟨x,u,z,r,p⟩:=k.cf i c t;refine⟨x,u,fJ y z,λe=>?_,λa=>?_⟩
  . have w:c.ver=l.ver:=J;have:=q w;subst this;exact r e
  . have:=n a;subst this;exact p a
 ek:=k.ek.trans h.ek
 below:=h.below.trans (h.ek▸k.below)
 nr b o a ae:=h.nr b o a (k.nr b o (by rw[h.ek];exact a) ae)
theorem a_.ext{w H:World}{Γ K:Env}(q:Ext w Γ H K){x:V}{v:Value}(h:a_ w Γ x v):a_ H K x v:=by
 induction h with
 |undef v=>exact .undef v
 |bool b=>exact .bool b
 |int k n=>exact .int k n
 |str s=>exact .str s
 |db=>exact .db
 |ff=>exact .ff
 |hY=>exact .hY
 |hf c u=>exact .hf c u
 |jv c u p=>exact .jv c u p
 |slice P c b o Q cap g u M L O ae C y A m=>exact .slice P c b o Q cap g u M L O (λi j E d=>(q.s _ _ (ae i j E d)).1) (λi j E d=>(q.ij _ _ (ae i j E d)).2.trans (C i j E d)) y m
 |eD cells b o g ae C y A m=>exact .eD cells b o g (λj d=>(q.s _ _ (ae j d)).1) (λj d=>(q.ij _ _ (ae j d)).2.trans (C j d)) y m
 |cq cells b o g N ae C y A m=>exact .cq cells b o g N (λj d=>(q.s _ _ (ae j d)).1) (λj d=>(q.s _ _ (ae j d)).2.trans (C j d)) y m
 |cI f F g a y A m=>exact .cI f F g a y m
 |ptr id off l a B D=>obtain⟨z,r,_,_,t⟩:=q.cf id l a;have:=t B;subst this;exact .ptr id off _ r B D
 |df id ver row off l a D v h=>obtain⟨z,r,R,t,_⟩:=q.cf id l a;refine .df id ver row off z r J v λe=>?_;have G:z.ver=l.ver:=J;have:=t G;subst this;exact h e
 |an id ver start len l a D v h u=>obtain⟨z,r,R,t,_⟩:=q.cf id l a;refine .an id ver start len z r J v (λe=>?_) u;have G:z.ver=l.ver:=J;have:=t G;subst this;exact h e
 |map id l a B D=>obtain⟨z,r,_,_,t⟩:=q.cf id l a;have:=t B;subst this;exact .map id _ r B D
 |fn f F g a A m=>exact .fn f F g a m
 |agg cells g a A m=>exact .agg cells g a m
 |tuple S g a A m=>exact .tuple S g a m
theorem a_.vN{w w':World}{Γ Γ':Env}(ae:∀b o,Γ.S b o->Γ'.S b o/\jt w' b o=jt w b o){x:V}{v:Value}(h:a_ w Γ x v)(l:x.ia=U):a_ w' Γ' x v:=by
 induction h with
 |bool b=>exact .bool b
 |int k n=>exact .int k n
 |str s=>exact .str s
 |db=>exact .db
 |ff=>exact .ff
 |hY=>exact .hY
 |hf c t=>exact .hf c t
 |jv c t p=>exact .jv c t p
 |slice H c b o J cap m t D C G g u e z q=>
  exact .slice H c b o J cap m t D C G (λi j y a=>(ae _ _ (g i j y a)).1) (λi j y a=>(congrArg Prod.fst (ae _ _ (g i j y a)).2).trans (u i j y a)) e
   (λi r j x d A=>q i r j x d A (e i r j x d A))
 |eD cells b o m g u e z q=>exact .eD cells b o m (λj a=>(ae _ _ (g j a)).1) (λj a=>(congrArg Prod.fst (ae _ _ (g j a)).2).trans (u j a)) e (λj x d=>q j x d (e j x d))
 |cq cells b o m F g u e z q=>exact .cq cells b o m F (λj a=>(ae _ _ (g j a)).1) (λj a=>(ae _ _ (g j a)).2.trans (u j a)) e (λj x d=>q j x d (e j x d))
 |cI f B m E e z q=>exact .cI f B m E e (λj x d=>q j x d (e j x d))
 |undef v=>cases l
 |ptr _ _ _ _ _ _=>cases l
 |df _ _ _ _ _ _ _ _ _=>cases l
 |an _ _ _ _ _ _ _ _ _ _=>cases l
 |map _ _ _ _ _=>cases l
 |fn _ _ _ _ _ _=>cases l
 |agg _ _ _ _ _=>cases l
 |tuple _ _ _ _ _=>cases l
def pn(w:World)(Γ:Env)(l:Loc):au->Prop
 |.box cells=>l.box=U/\l.live=U/\(∀o,¬Γ.S l.b o)/\∃c T,w.heap[l.b]? =I (.cells c T (0,0))/\dz w Γ cells c
 |.aj m d ver k=>l.box=ad/\l.sz=m/\l.ver=ver/\k<=d.length/\d.length<=l.cap/\(l.live=ad->l.cap=0)/\
   (∀(i:Nat)(r:List V),d[i]? =I r->r.length=l.sz)/\(∀(i:Nat)(r:List V)(j:Nat)(x:V),d[i]? =I r->r[j]? =I x->x.ia=U)/\
   (l.live=U->(∀o,Γ.S l.b o↔o<k*l.sz)/\∃c T,w.heap[l.b]? =I (.cells c T (0,0))/\c.size=l.cap*l.sz/\
     ∀(i:Nat)(r:List V)(j:Nat)(x:V),d[i]? =I r->r[j]? =I x->a_ w Γ x (c.getD (i*l.sz+j) Go.undef))
 |.map h=>l.box=U/\l.live=U/\(∀o,¬Γ.S l.b o)/\∃g clock,w.heap[l.b]? =I (.map g clock)/\g.size=h.length/\
   (∀(i:Nat)(e:MapEntry)(a:V×V),g[i]? =I e->h[i]? =I a->a.1.nc=U/\a.2.gU=U/\a_ w Γ a.1 e.key/\a_ w Γ a.2 e.val/\e.born=i)/\clock=h.length
 |.b7 cells ver=>l.box=ad/\l.sz=1/\l.ver=ver/\cells.length<=l.cap/\(l.live=ad->l.cap=0)/\
   (l.live=U->(∀o,¬Γ.S l.b o)/\∃c T,w.heap[l.b]? =I (.cells c T (0,0))/\c.size=l.cap/\∀(j:Nat)(x:V),cells[j]? =I x->a_ w Γ x (c.getD j Go.undef))
 |.iter mid n seen=>l.box=U/\l.live=U/\(∀o,¬Γ.S l.b o)/\∃f,Γ.cf[mid]? =I f/\f.box=U/\f.live=U/\w.heap[l.b]? =I (.mapIter (I f.b) n seen.toArray n)
 |.dead=>l.box=ad/\l.live=ad
structure Good(w:World)(Γ:Env)(M:Mem):Prop where
 len:Γ.cf.length=M.length
 dI:∀(i:Nat)(l:Loc)(B:au),Γ.cf[i]? =I l->M[i]? =I B->pn w Γ l B
 ek:∀(i:Nat)(l:Loc),Γ.cf[i]? =I l->Γ.hl<=l.b
 inj:∀(i j:Nat)(l l':Loc),Γ.cf[i]? =I l->Γ.cf[j]? =I l'->l.live=U->l'.live=U->l.b=l'.b->i=j
 hx:∀b o,Γ.S b o->∃v,w.cell? ⟨b,o,ag⟩=I v
 bf:Γ.hl<=w.heap.size
 mH:∀w',Below Γ.hl w w'->GT w'
def iy{w:World}{b o:Nat}{c:Array Value}{T:TypeId}{f:Nat×Nat}(h:w.heap[b]? =I (.cells c T f)):w.cell? ⟨b,o,ag⟩=c[o]? :=by simp[World.cell?,h]
def h9{c:Array Value}{j:Nat}(h:j<c.size):c[j]? =I (c.getD j Go.undef):=by simp[h]
def pB{w w':World}{b o:Nat}(h:w'.heap[b]? =w.heap[b]?):w'.cell? ⟨b,o,ag⟩=w.cell? ⟨b,o,ag⟩:=by simp[World.cell?,h]
def qb{w a:World}{b o:Nat}(h:a.heap[b]? =w.heap[b]?):jt a b o=jt w b o:=by simp only[jt,pB h,h]
def Bv{w a:World}{b o:Nat}{c e:Array Value}{T d:TypeId}{f:Nat×Nat}(h:w.heap[b]? =I (.cells c T f))(g:a.heap[b]? =I (.cells e d f))
 (i:a.cell? ⟨b,o,ag⟩=w.cell? ⟨b,o,ag⟩):jt a b o=jt w b o:=by
 simp only[jt,i,h,g]
def dz.ext{w b:World}{Γ d:Env}(e:Ext w Γ b d){c:List V}{a:Array Value}(h:dz w Γ c a):dz b d c a:=
 ⟨h.1,λj x f=>(h.2 j x f).ext e⟩
theorem pn.cj{w J:World}{Γ K:Env}(y:Ext w Γ J K){l:Loc}(C:l.live=U->J.heap[l.b]? =w.heap[l.b]?)(A:l.live=U->∀o,K.S l.b o->Γ.S l.b o){B:au}(h:pn w Γ l B):pn J K l B:=by
 cases B with
 |box cells=>obtain⟨p,k,q,c,T,u,m⟩:=h;exact⟨p,k,λo g=>q o (A k o g),c,T,(C k).trans u,m.ext y⟩
 |aj W V ver Q=>obtain⟨p,D,q,u,m,f,z,F,t⟩:=h;refine⟨p,D,q,u,m,f,z,F,λv=>?_⟩;obtain⟨f,c,T,t,G,E⟩:=t v;exact⟨λo=>⟨λg=>(f o).1 (A v o g),λg=>(y.s _ _ ((f o).2 g)).1⟩,c,T,(C v).trans t,G,λi r j x M H=>(E i r j x M H).ext y⟩
 |map P=>obtain⟨p,k,q,L,clock,u,m,f,z⟩:=h;exact⟨p,k,λo g=>q o (A k o g),L,clock,(C k).trans u,m,λi e N F t=>by obtain⟨a,b,c,d,e⟩:=f i e N F t;exact⟨a,b,c.ext y,d.ext y,e⟩,z⟩
 |b7 cells ver=>obtain⟨p,D,q,m,f,t⟩:=h;refine⟨p,D,q,m,f,λv=>?_⟩;obtain⟨f,c,T,t,G,E⟩:=t v;exact⟨λo g=>f o (A v o g),c,T,(C v).trans t,G,λj x H=>(E j x H).ext y⟩
 |iter mid n seen=>obtain⟨p,k,q,O,u,m,f,z⟩:=h;obtain⟨R,aD,_,_,ba⟩:=y.cf mid O u;have:=ba m;subst this;exact⟨p,k,λo g=>q o (A k o g),_,aD,m,f,(C k).trans z⟩
 |dead=>exact h
def Ext.drew(w:World)(Γ:Env):Ext w Γ w.drew Γ:=
 ⟨λ_ _ h=>⟨h,rfl⟩,λ_ l h=>⟨l,h,bk _,λ_=>rfl,λ_=>rfl⟩,rfl,(Below.refl _ _).drew,λ_ _ _ h=>h⟩
def Good.rn{w c:World}{Γ d:Env}{M:Mem}(h:Good w Γ M)(b:Ext w Γ c d):∀a,Below d.hl c a->GT a:=λa e=>h.mH a (b.below.trans (b.ek▸e))
def Good.drew{w:World}{Γ:Env}{M:Mem}(h:Good w Γ M):Good w.drew Γ M:=
 ⟨h.len,λi l B b a=>(h.dI i l B b a).cj (Ext.drew w Γ) (λ_=>rfl) (λ_ _ h=>h),h.ek,h.inj,h.hx,h.bf,h.rn (Ext.drew w Γ)⟩
theorem Good.j0{w:World}{Γ:Env}{M:Mem}(h:Good w Γ M){i:Nat}{l:Loc}(j:Γ.cf[i]? =I l)(f:l.live=U):l.b<w.heap.size:=by
 have k:i<M.length:=by rw[<-h.len];exact(az.1 j).1
 have a:=h.dI i l M[i] j (by simp[k]);have key:∀o,w.heap[l.b]? =I o->l.b<w.heap.size:=λo m=>(jC.1 m).1;cases e:M[i] with
 |box cells=>rw[e] at a;obtain⟨_,_,_,c,T,d,_⟩:=a;exact key _ d
 |aj v u ver r=>rw[e] at a;obtain⟨s,_,_,_,_,_,_,_,g⟩:=a;obtain⟨_,c,T,d,_⟩:=g f;exact key _ d
 |map q=>rw[e] at a;obtain⟨_,_,_,p,clock,d,_⟩:=a;exact key _ d
 |b7 cells ver=>rw[e] at a;obtain⟨_,_,_,_,_,g⟩:=a;obtain⟨_,c,T,d,_⟩:=g f;exact key _ d
 |iter mid n seen=>rw[e] at a;obtain⟨_,_,_,t,_,_,_,d⟩:=a;exact key _ d
 |dead=>rw[e] at a;rw[a.2] at f;cases f
def Good.np{w:World}{Γ:Env}{M:Mem}(h:Good w Γ M){b o:Nat}(ae:Γ.S b o):b<w.heap.size:=by obtain⟨v,c⟩:=h.hx b o ae;exact World.block_lt_of_cell? (a:=⟨b,o,ag⟩) w c
def kX(w:World)(o:Obj){k:Nat}(h:k<w.heap.size):(w.alloc o).heap[k]? =w.heap[k]? :=Below.heap_alloc w o k h
def heap_alloc_new(w:World)(o:Obj):(w.alloc o).heap[w.heap.size]? =I o:=by show(w.heap.push o)[w.heap.size]? =_;simp
def Env.imm(Γ:Env)(b n:Nat):Env:={Γ with S:=λa o=>Γ.S a o∨(a=b/\o<n)}
def Ext.qv{w:World}{Γ:Env}{M:Mem}(h:Good w Γ M)(c:Array Value)(T:TypeId):
 Ext w Γ (w.alloc (.cells c T)) (Γ.imm w.heap.size c.size) where
 s b o ae:=⟨.inl ae,qb (kX w _ (h.np ae))⟩
 cf i l a:=⟨l,a,bk _,λ_=>rfl,λ_=>rfl⟩
 ek:=rfl
 below:=(Below.refl _ _).alloc h.bf _
 nr b o d ae:=by
  rcases ae with ae|⟨rfl,_⟩
  . exact ae
  . have:=h.bf;omega
def Good.qv{w:World}{Γ:Env}{M:Mem}(h:Good w Γ M)(c:Array Value)(T:TypeId):
 Good (w.alloc (.cells c T)) (Γ.imm w.heap.size c.size) M where
 len:=h.len
 dI i l B e f:=(h.dI i l B e f).cj (Ext.qv h c T) (λd=>kX w _ (h.j0 e d)) (λd o a=>by
  rcases a with a|⟨g,_⟩
  . exact a
  . have:=h.j0 e d;omega)
 ek:=h.ek
 inj:=h.inj
 hx b o ae:=by
  rcases ae with ae|⟨rfl,a⟩
  . obtain⟨v,d⟩:=h.hx b o ae;exact⟨v,(pB (kX w _ (h.np ae))).trans d⟩
  . exact⟨c.getD o Go.undef,by rw[iy (heap_alloc_new w _)];exact h9 a⟩
 bf:=by show Γ.hl<=_;have:=h.bf;simp;omega
 mH:=h.rn (Ext.qv h c T)
def Env.fl(Γ:Env)(l:Loc):Env:={Γ with cf:=Γ.cf++[l]}
def Ext.mc{w:World}{Γ:Env}{M:Mem}(h:Good w Γ M)(o:Obj)(l:Loc):Ext w Γ (w.alloc o) (Γ.fl l) where
 s b o ae:=⟨ae,qb (kX w _ (h.np ae))⟩
 cf i l a:=⟨l,by have c:i<Γ.cf.length:=(az.1 a).1;simp only[Env.fl];rw[et c,a],bk _,λ_=>rfl,λ_=>rfl⟩
 ek:=rfl
 below:=(Below.refl _ _).alloc h.bf _
 nr b o d ae:=ae
def Good.mc{w:World}{Γ:Env}{M:Mem}(h:Good w Γ M)(o:Obj)(l:Loc)(z:l.b=w.heap.size)(B:au)
 (u:pn (w.alloc o) (Γ.fl l) l B):Good (w.alloc o) (Γ.fl l) (M++[B]):=by
 have split:∀i d,(Γ.fl l).cf[i]? =I d->(i<M.length/\Γ.cf[i]? =I d)∨(i=M.length/\d=l):=by
  intro i d a;simp only[Env.fl] at a;by_cases c:i<Γ.cf.length
  . rw[et c] at a;exact .inl ⟨by rw[<-h.len];exact c,a⟩
  . rw[fH (Nat.le_of_not_lt c)] at a;have:i -Γ.cf.length=0:=by
     have:=(az.1 a).1;simp at this;omega
    rw[this] at a;simp at a;exact .inr ⟨by rw[<-h.len];omega,a.symm⟩
 refine⟨by simp[Env.fl,h.len],λi d r a e=>?_,λi d a=>?_,λi j n p s t gz q x=>?_,λb o ae=>?_,?_,h.rn (Ext.mc h o l)⟩
 . rcases split i d a with⟨c,f⟩|⟨c,rfl⟩
   . rw[et c] at e;exact(h.dI i d r f e).cj (Ext.mc h o l) (λg=>kX w _ (h.j0 f g)) (λ_ _ h=>h)
   . subst c;simp at e;subst e;exact u
 . rcases split i d a with⟨c,f⟩|⟨c,rfl⟩
   . exact h.ek i d f
   . show Γ.hl<=_;rw[z];exact h.bf
 . rcases split i n s with⟨c,k⟩|⟨c,rfl⟩<;>rcases split j p t with⟨y,m⟩|⟨y,rfl⟩
   . exact h.inj i j n p k m gz q x
   . have:=h.j0 k gz;omega
   . have:=h.j0 m q;omega
   . omega
 . obtain⟨v,g⟩:=h.hx b o ae;exact⟨v,(pB (kX w _ (h.np ae))).trans g⟩
 . have:=h.bf;simp[Env.fl];omega
def Good.q1{w:World}{Γ:Env}{M:Mem}(h:Good w Γ M)(o:Nat):¬Γ.S w.heap.size o:=λae=>by have:=h.np ae;omega
def kT(b:Nat):Loc:=⟨b,U,U,0,0,0⟩
theorem Good.C6{w:World}{Γ:Env}{M:Mem}(h:Good w Γ M)(c:Array Value)(T:TypeId)(cells:List V)(d:dz w Γ cells c):
 Good (w.alloc (.cells c T)) (Γ.fl (kT w.heap.size)) (M++[.box cells])/\Ext w Γ (w.alloc (.cells c T)) (Γ.fl (kT w.heap.size))/\
  a_ (w.alloc (.cells c T)) (Γ.fl (kT w.heap.size)) (.ptr M.length 0) (.pointer (I ⟨w.heap.size,0,ag⟩)):=by
 have a:=Ext.mc h (.cells c T) (kT w.heap.size);refine⟨h.mc _ _ rfl _ ⟨rfl,rfl,λo b=>h.q1 o b,c,T,heap_alloc_new w _,d.ext a⟩,a,?_⟩;exact .ptr M.length 0 (kT w.heap.size) (by simp[Env.fl,<-h.len]) rfl rfl
theorem Good.Qc{w:World}{Γ:Env}{M:Mem}(h:Good w Γ M):
 Good (w.alloc (.map #[] 0)) (Γ.fl (kT w.heap.size)) (M++[.map []])/\Ext w Γ (w.alloc (.map #[] 0)) (Γ.fl (kT w.heap.size))/\
  a_ (w.alloc (.map #[] 0)) (Γ.fl (kT w.heap.size)) (.map M.length) (.map (I w.heap.size)):=by
 have b:=Ext.mc h (.map #[] 0) (kT w.heap.size);refine⟨h.mc _ _ rfl _ ⟨rfl,rfl,λo c=>h.q1 o c,#[],0,heap_alloc_new w _,rfl,λi e d a=>by simp at a,rfl⟩,b,?_⟩;exact .map M.length (kT w.heap.size) (by simp[Env.fl,<-h.len]) rfl rfl
theorem Good.Qb{w:World}{Γ:Env}{M:Mem}(h:Good w Γ M){mid n:Nat}{a:Loc}(e:Γ.cf[mid]? =I a)(c:a.box=U)(g:a.live=U):
 Good (w.alloc (.mapIter (I a.b) n #[] n)) (Γ.fl (kT w.heap.size)) (M++[.iter mid n []])/\Ext w Γ (w.alloc (.mapIter (I a.b) n #[] n)) (Γ.fl (kT w.heap.size))/\
  a_ (w.alloc (.mapIter (I a.b) n #[] n)) (Γ.fl (kT w.heap.size)) (.ptr M.length 0) (.pointer (I ⟨w.heap.size,0,ag⟩)):=by
 have d:=Ext.mc h (.mapIter (I a.b) n #[] n) (kT w.heap.size);obtain⟨i,aD,_,_,ba⟩:=d.cf mid a e;have:=ba c;subst this;refine⟨h.mc _ _ rfl _ ⟨rfl,rfl,λo f=>h.q1 o f,_,aD,c,g,heap_alloc_new w _⟩,d,?_⟩;exact .ptr M.length 0 (kT w.heap.size) (by simp[Env.fl,<-h.len]) rfl rfl
def Ext.write{w a:World}{Γ:Env}{M:Mem}(h:Good w Γ M){id:Nat}{l:Loc}(c:Γ.cf[id]? =I l)
 (e:∀k,k≠l.b->a.heap[k]? =w.heap[k]?)(p:a.heap.size=w.heap.size)(g:a.os=w.os)(m:a.tape=w.tape)(j:a.output=w.output)
 (f:∀o,Γ.S l.b o->jt a l.b o=jt w l.b o):Ext w Γ a Γ where
 s b o ae:=⟨ae,by
  by_cases d:b=l.b
  . subst d;exact f o ae
  . exact qb (e b d)⟩
 cf i l c:=⟨l,c,bk _,λ_=>rfl,λ_=>rfl⟩
 ek:=rfl
 below:=⟨g,m,j,J,λk n=>e k (by have:=h.ek id l c;omega)⟩
 nr b o _ ae:=ae
def Good.write{w e:World}{Γ:Env}{M:Mem}(h:Good w Γ M){id:Nat}{l:Loc}(g:Γ.cf[id]? =I l)(j:l.live=U)(d:Ext w Γ e Γ)
 (r:∀k,k≠l.b->e.heap[k]? =w.heap[k]?){B:au}(p:pn e Γ l B):Good e Γ (M.set id B) where
 len:=by rw[cW];exact h.len
 dI i m n c a:=by
  by_cases f:id=i
  . subst f;have s:id<M.length:=by rw[<-h.len];exact(az.1 g).1
    rw[bY s] at a;simp only[aC] at a;subst a;rw[g] at c;simp only[aC] at c;subst c;exact p
  . rw[bo f] at a;exact(h.dI i m n c a).cj d (λt=>r _ (λq=>f (h.inj id i l m g c j t q.symm))) (λ_ _ h=>h)
 ek:=h.ek
 inj:=h.inj
 hx b o ae:=by obtain⟨v,j⟩:=h.hx b o ae;exact⟨v,(d.ij b o ae).2.trans j⟩
 bf:=fJ h.bf d.below.size
 mH:=h.rn d
def XI(w:World)(a:Addr)(u:Value){k:Nat}(h:k≠a.block):(w.setCell a u).heap[k]? =w.heap[k]? :=Below.heap_setCell w a u k h
theorem XH(w:World)(b o:Nat)(u:Value){c:Array Value}{T:TypeId}{f:Nat×Nat}(h:w.heap[b]? =I (.cells c T f)):
 (w.setCell ⟨b,o,ag⟩ u).heap[b]? =I (.cells (c.setIfInBounds o u) T f):=by
 show(w.heap.modify b _)[b]? =_;rw[Array.getElem?_modify,aF rfl,h];rfl
def dz.set{w:World}{Γ:Env}{d:List V}{b:Array Value}(h:dz w Γ d b){o:Nat}{x:V}{v:Value}(f:a_ w Γ x v):dz w Γ (d.set o x) (b.setIfInBounds o v):=by
 refine⟨by simp[h.1],λj y a=>?_⟩;by_cases c:o=j
 . subst c;have e:o<d.length:=by
    have:=(az.1 a).1;simpa using this
   rw[bY e] at a;simp only[aC] at a;subst a;have:o<b.size:=by rw[h.1];exact e
   simpa[gL,this] using f
 . rw[bo c] at a;have:=h.2 j y a;simpa[gL,Array.getElem?_setIfInBounds_ne c] using this
def Good.Q4{w:World}{Γ:Env}{M:Mem}(h:Good w Γ M){id o:Nat}{l:Loc}(g:Γ.cf[id]? =I l){cells:List V}(f:M[id]? =I (.box cells)){x:V}(e:cells[o]? =I x):
 ∃v,w.cell? ⟨l.b,o,ag⟩=I v/\a_ w Γ x v/\w.frozen? ⟨l.b,o,ag⟩=ad:=by
 obtain⟨j,m,k,c,T,a,d⟩:=h.dI id l _ g f;have i:o<c.size:=by rw[d.1];exact(az.1 e).1
 refine⟨c.getD o Go.undef,by rw[iy a];exact h9 i,d.2 o x e,by simp[World.frozen?,a]⟩
def Good.YW{w:World}{Γ:Env}{M:Mem}(h:Good w Γ M){id:Nat}{B:au}(a:M[id]? =I B):∃l,Γ.cf[id]? =I l:=by
 have:id<Γ.cf.length:=by rw[h.len];exact(az.1 a).1
 exact⟨Γ.cf[id],by simp[this]⟩
end Go.ao
namespace Go.ao
inductive aA where
 |tmp (t:Nat)
 |const (v:V)
 deriving Inhabited
inductive ex where
 |bool|int|str
 deriving DecidableEq
inductive en where
 |bool|int|str
 |cells (Yg:List ex)
 deriving DecidableEq
inductive hB where
 |none|bool|ptr|slice|map|fn
 |cells (Yg:List ex)
inductive cH where
 |gG (x:aA)
 |lL (sz:Nat)
 |pick (c a b:aA)
 |alloc (zero:List V)
 |box (n:Nat) (x:aA)
 |build (zero:List V) (dp:List (Nat×Nat×aA))
 |buildSlice (zero:List V) (sz len:Nat) (dp:List (Nat×Nat×aA))
 |mf (zero:List V) (len:Nat) (dp:List (Nat×Nat×aA))
 |load (n:Nat) (rU:Bool) (a:aA)
 |store (n:Nat) (a x:aA)
 |nilCheck (x:aA)
 |cp (op:BinOp) (k:hB) (x y:aA)
 |un (op:UnOp) (x:aA)
 |conv (k:IntKind) (x:aA)
 |pD (x:aA)
 |nN (x:aA)
 |jQ (f:Nat) (caps:List aA)
 |makeSlice (zero:List V) (sz bytes:Nat) (l c:aA)
 |oT (zero:V) (bytes:Nat) (l c:aA)
 |slice (sz:Nat) (x:aA) (lo hi mx:Option aA)
 |qe (x:aA) (lo hi:Option aA)
 |fieldAddr (off:Nat) (x:aA)
 |field (off n:Nat) (rU:Bool) (x:aA)
 |eM (len sz:Nat) (x i:aA)
 |gq (sz:Nat) (x i:aA)
 |mq (x i:aA)
 |oP (len sz:Nat) (rU:Bool) (x i:aA)
 |nX (x:aA)
 |k4 (x:aA)
 |pY (n:Nat)
 |append (imm:Bool) (sz bytes:Nat) (s x:aA)
 |k7 (mx:Bool) (x y:aA)
 |extract (x:aA) (i:Nat)
 |makeMap (r:Option aA)
 |lookup (c:en) (zero:List V) (rU ok:Bool) (m k:aA)
 |mapUpdate (c:en) (m k x:aA)
 |mapEntry (c:en) (zero:V) (m k:aA)
 |entryStore (m st x:aA)
 |copy (sz:Nat) (d x:aA)
 |qd (sz:Nat) (x h m:aA)
 |nY (x:aA)
 |nf (x:aA)
 |call (f:Nat) (args:List aA)
 |fM (f:aA) (args:List aA)
 |lO (neg:Bool) (x y:aA)
 |p8 (x:aA)
 |n2 (x:aA)
 |pH (x:aA)
 |pZ (x:aA)
 deriving Inhabited
structure bg where
 dst:Option Nat
 op:cH
 sm:Bool
 guard:Option (Nat×Bool)
 deriving Inhabited
inductive bu where
 |skip
 |region (gH:List bg) (live:List Nat)
 |mixed (gH:List bg) (Bd:List Bool) (live:List Nat)
 |float (gH:List bg) (kV:List (Option (List Nat))) (live:List Nat)
 |oN (c:Nat) (z:List V) (gH:List bg) (kV:List (Option (List Nat))) (live:List Nat)
 |seq (a b:bu)
 |cond (c:aA) (a b:bu)
 |block (id:Nat) (a:bu)
 |loop (live:List Nat) (a:bu)
 |scope (l:Nat) (live:List Nat) (a cJ:bu)
 |exit (id:Nat)
 |label
 |goto (l:Nat)
 |ret
 deriving Inhabited
inductive jF where
 |tmp (t:Nat)
 |cell (t n:Nat) (rU:Bool)
structure aU where
 ntmps:Nat
 results:List jF
 body:bu
abbrev av:=List (Nat×V)
def aE:av->Nat->V
 |[],_=>.undef
 |(t,v)::s,u=>bif t==u then v else aE s u
def dQ(s:av)(u:Nat)(x:V):av:=(u,x)::s
def a4(s:av):Option Nat->V->av
 |some d,v=>dQ s d v
 |none,_=>s
def fQ(s:av):List Nat->av
 |[]=>[]
 |t::a=>(t,aE s t)::fQ s a
def cC(s:av):List Nat->List V
 |[]=>[]
 |t::a=>aE s t::cC s a
def jB:List Nat->List V->av
 |t::a,v::b=>(t,v)::jB a b
 |_,_=>[]
def nq:List V->Nat->av
 |[],_=>[]
 |v::a,i=>(i,v)::nq a (i+1)
def aw(s:av):aA->V
 |.tmp t=>aE s t
 |.const v=>v
def dO(s:av):Option aA->Option V
 |some x=>I (aw s x)
 |none=>ag
def d5(s:av):List aA->List V
 |[]=>[]
 |x::a=>aw s x::d5 s a
def iB(s:av):List (Nat×Nat×aA)->List (Nat×Nat×V)
 |[]=>[]
 |(a,b,x)::c=>(a,b,aw s x)::iB s c
def V.cells?:V->Option (List V)
 |.agg a=>I a
 |.undef=>ag
 |.tuple _=>ag
 |v=>I [v]
def e6:List V->Nat->List V->List V
 |cells,_,[]=>cells
 |cells,off,x::a=>e6 (cells.set off x) (off+1) a
def ko:List V->Bool
 |[]=>U
 |x::a=>x.gU&&ko a
def fL:List V->Bool
 |[]=>U
 |x::a=>x.ia&&fL a
def ml:List V->List (Nat×Nat×V)->Option (List V)
 |cells,[]=>I cells
 |cells,(off,size,v)::cJ=>
  match v.cells? with
  |some a=>bif a.length==size&&decide (off+size<=cells.length) then ml (e6 cells off a) cJ else ag
  |none=>ag
def oI(a:Nat):Nat->List V->List (List V)
 |0,_=>[]
 |n+1,cells=>cells.take a::oI a n (cells.drop a)
def g6(n:Nat)(a:Bool)(cells:List V)(off:Nat):Option V:=
 match a with
 |true=>bif decide (off+n<=cells.length) then I (.agg ((cells.drop off).take n)) else ag
 |false=>cells[off]?
mutual
def V.under(n:Nat):V->Bool
 |.ptr id _=>decide (id<n)
 |.df id _ _ _=>decide (id<n)
 |.an id _ _ _=>decide (id<n)
 |.map id=>decide (id<n)
 |.fn _ caps=>cd n caps
 |.agg cells=>cd n cells
 |.tuple vs=>cd n vs
 |_=>U
def cd(n:Nat):List V->Bool
 |[]=>U
 |x::xs=>V.under n x&&cd n xs
end
def kE(n:Nat):List (V×V)->Bool
 |[]=>U
 |(_,v)::a=>v.under n&&kE n a
def au.under(n:Nat):au->Bool
 |.box cells=>cd n cells
 |.b7 cells _=>cd n cells
 |.map a=>kE n a
 |.iter mid _ _=>decide (mid<n)
 |_=>U
def b4(n:Nat):Mem->Bool
 |[]=>U
 |B::M=>B.under n&&b4 n M
def oE(op:BinOp)(k:IntKind)(x y:Int):Option V:=
 match op with
 |.and=>I (.int k (k.wrap ((fF k.bits x&&&fF k.bits y).toNat:Int)))
 |.or=>I (.int k (k.wrap ((fF k.bits x|||fF k.bits y).toNat:Int)))
 |.xor=>I (.int k (k.wrap ((fF k.bits x^^^fF k.bits y).toNat:Int)))
 |.andNot=>I (.int k (k.wrap ((fF k.bits x&&&~~~fF k.bits y).toNat:Int)))
 |_=>ag
def jK(op:BinOp)(k:IntKind)(a b:Int):Option V:=
 match op with
 |.add=>I (.int k (k.wrap (a+b)))
 |.sub=>I (.int k (k.wrap (a -b)))
 |.mul=>I (.int k (k.wrap (a*b)))
 |.quo=>bif decide (b=0) then ag else I (.int k (k.wrap (a.tdiv b)))
 |.rem=>bif decide (b=0) then ag else I (.int k (a.tmod b))
 |.eql=>I (.bool (decide (a=b)))
 |.neq=>I (.bool (!decide (a=b)))
 |.lss=>I (.bool (decide (a<b)))
 |.leq=>I (.bool (decide (a<=b)))
 |.gtr=>I (.bool (decide (b<a)))
 |.geq=>I (.bool (decide (b<=a)))
 |.shl|.shr=>ag
 |.and=>oE .and k a b
 |.or=>oE .or k a b
 |.xor=>oE .xor k a b
 |.andNot=>oE .andNot k a b
def Dk(op:BinOp)(a b:List UInt8):Option V:=
 match op with
 |.add=>bif decide (((a.length+b.length:Nat):Int)<=9223372036854775807) then I (.str (a++b)) else ag
 |.eql=>I (.bool (decide (a=b)))
 |.neq=>I (.bool (!decide (a=b)))
 |.lss=>I (.bool (Op.bytesLess a b))
 |.leq=>I (.bool (Op.bytesLess a b||decide (a=b)))
 |.gtr=>I (.bool (!(Op.bytesLess a b||decide (a=b))))
 |.geq=>I (.bool (!Op.bytesLess a b))
 |_=>ag
def lT(op:BinOp)(k:IntKind)(a b:Int):Option V:=
 bif decide (b<0) then ag else
 match op with
 |.shl=>I (.int k (k.wrap (a*2^(min b.toNat k.bits))))
 |.shr=>I (.int k (a.fdiv (2^(min b.toNat k.bits))))
 |_=>ag
def gn:ex->V->V->Option Bool
 |.int,.int k a,.int c b=>bif decide (k=c) then I (decide (a=b)) else ag
 |.bool,.bool a,.bool b=>I (decide (a=b))
 |.str,.str a,.str b=>I (decide (a=b))
 |_,_,_=>ag
def fk:List ex->List V->List V->Option Bool
 |[],_,_=>I U
 |c::a,x::e,y::f=>
  match gn c x y,fk a e f with
  |some b,I d=>I (b&&d)
  |_,_=>ag
 |_,_,_=>ag
def hf:V->Option Bool
 |.slice _ .nil=>I U
 |.slice _ .full=>I ad
 |.slice _ .any=>I ad
 |.slice (_::_) .bF=>I ad
 |_=>ag
def Z7:V->Bool
 |.eD _|.cq _|.cI _ _|.ptr _ _|.df _ _ _ _|.fn _ _=>U
 |_=>ad
def jL(x y:V):hB->Option Bool
 |.bool=>
  match x,y with
  |.bool a,.bool b=>I (decide (a=b))
  |_,_=>ag
 |.cells c=>
  match x,y with
  |.agg d,.agg e=>fk c d e
  |_,_=>ag
 |.ptr=>
  match x,y with
  |.db,.db=>I U
  |.db,.eD _|.db,.cq _|.db,.ptr _ _|.eD _,.db|.cq _,.db|.ptr _ _,.db=>I ad
  |_,_=>ag
 |.slice=>
  match x,y with
  |.slice _ .nil,y=>hf y
  |x,.slice _ .nil=>hf x
  |_,_=>ag
 |.map=>
  match x,y with
  |.hY,.hY=>I U
  |.hY,.map _|.map _,.hY=>I ad
  |_,_=>ag
 |.fn=>
  match x,y with
  |.ff,.ff=>I U
  |.ff,.cI _ _|.ff,.fn _ _|.cI _ _,.ff|.fn _ _,.ff=>I ad
  |_,_=>ag
 |.none=>ag
def cT(op:BinOp)(c:hB)(x y:V):Option V:=
 match x,y with
 |.int k a,.int d b=>
  match op with
  |.shl=>lT .shl k a b
  |.shr=>lT .shr k a b
  |op=>bif decide (k=d) then jK op k a b else ag
 |.str a,.str b=>Dk op a b
 |x,y=>
  match op with
  |.eql=>(jL x y c).map .bool
  |.neq=>(jL x y c).map λb=>.bool !b
  |_=>ag
def rq(op:UnOp)(x:V):Option V:=
 match op,x with
 |.neg,.int k n=>I (.int k (k.wrap (0 -n)))
 |.xor,.int k n=>oE .xor k (if k.signed then-1 else k.max) n
 |.not,.bool b=>I (.bool !b)
 |_,_=>ag
def oU(d:Bool)(x y:V):Option V:=
 match x,y with
 |.int k a,.int c b=>
  bif decide (k=c) then
   match d with
   |true=>I (.int k (if b>a then b else a))
   |false=>I (.int k (if b<a then b else a))
  else ag
 |_,_=>ag
def iF(off:Nat):V->Option V
 |.eD cells=>bif decide (off<=cells.length) then I (.eD (cells.drop off)) else ag
 |.cq cells=>bif decide (off<=cells.length) then I (.eD (cells.drop off)) else ag
 |.ptr id o=>I (.ptr id (o+off))
 |.df id v row o=>I (.df id v row (o+off))
 |_=>ag
def uv(n:Nat)(a:Bool)(off:Nat)(cells:List V)(row:Nat):Option V:=
 match n,a,off with
 |1,ad,0=>cells[row]?
 |_,_,_=>ag
def ym(off:Nat)(a:List V)(cells:List V)(row:Nat):Option (List V):=
 match off,a with
 |0,[x]=>bif decide (row<cells.length) then I (cells.set row x) else ag
 |_,_=>ag
def dZ(n:Nat)(b:Bool)(a:V)(M:Mem):Option V:=
 match a with
 |.eD cells=>g6 n b cells 0
 |.cq cells=>g6 n b cells 0
 |.ptr id off=>
  match M[id]? with
  |some (.box cells)=>g6 n b cells off
  |_=>ag
 |.df id ver row off=>
  match M[id]? with
  |some (.aj _ c v _)=>
   bif v==ver then
    match c[row]? with
    |some r=>g6 n b r off
    |none=>ag
   else ag
  |some (.b7 cells v)=>bif v==ver then uv n b off cells row else ag
  |_=>ag
 |_=>ag
def uo(n:Nat)(a x:V)(M:Mem):Option Mem:=
 match x.cells? with
 |some b=>
  bif b.length==n&&ko b then
   match a with
   |.ptr id off=>
    match M[id]? with
    |some (.box cells)=>bif decide (off+n<=cells.length) then I (M.set id (.box (e6 cells off b))) else ag
    |_=>ag
   |.df id ver row off=>
    match M[id]? with
    |some (.aj f d v c)=>
     bif v==ver&&decide (c<=row)&&fL b then
      match d[row]? with
      |some r=>bif decide (off+n<=r.length) then I (M.set id (.aj f (d.set row (e6 r off b)) v c)) else ag
      |none=>ag
     else ag
    |some (.b7 cells v)=>
     bif v==ver then
      match ym off b cells row with
      |some e=>I (M.set id (.b7 e v))
      |none=>ag
     else ag
    |_=>ag
   |_=>ag
  else ag
 |none=>ag
def dP(n:Nat):List (List V)->Bool
 |[]=>U
 |r::_=>r.length==n
def dg(b:Nat)(M:Mem):V->Option (List (List V))
 |.slice a _=>bif dP b a then I a else ag
 |.an id ver start len=>
  match M[id]? with
  |some (.aj z a v _)=>bif z==b&&v==ver&&decide (start+len<=a.length) then I ((a.drop start).take len) else ag
  |_=>ag
 |_=>ag
def eU(imm:Bool)(d bytes:Nat)(s:V)(b:List (List V))(M:Mem):Option (V×Mem):=
 match s with
 |.slice a c=>
  bif dP d a&&(decide (c=.nil)||decide (c=.full))&&decide ((a.length+b.length)*(2*bytes)<=2^48) then
   match imm with
   |true=>I (.slice (a++b) .bF,M)
   |false=>
    match b with
    |[]=>I (.slice a c,M)
    |_=>I (.an M.length 0 0 (a.length+b.length),M++[.aj d (a++b) 0 0])
  else ag
 |.an id ver 0 len=>
  match M[id]? with
  |some (.aj z a v e)=>
   bif z==d&&v==ver&&len==a.length&&decide ((a.length+b.length)*(2*bytes)<=2^48) then
    I (.an id (ver+1) 0 (len+b.length),M.set id (.aj d (a++b) (ver+1) e))
   else bif z==d&&v==ver&&decide (len<=a.length)&&decide (e<=len)&&decide ((len+b.length)*(2*bytes)<=2^48) then
    I (.an id (ver+1) 0 (len+b.length),M.set id (.aj d (a.take len++b) (ver+1) e))
   else ag
  |some (.b7 cells v)=>
   match b with
   |[[x]]=>
    bif d==1&&v==ver&&len==cells.length&&decide ((cells.length+1)*(2*bytes)<=2^48) then
     I (.an id (ver+1) 0 (len+1),M.set id (.b7 (cells++[x]) (ver+1)))
    else ag
   |_=>ag
  |_=>ag
 |_=>ag
def gE(d:Nat):Option V->Option Nat
 |none=>I d
 |some (.int _ i)=>bif decide (0<=i) then I i.toNat else ag
 |some _=>ag
def kp(c:cg)(h m len:Nat)(a:Bool):cg:=
 match c with
 |.nil=>.nil
 |.bF=>.bF
 |.any=>bif a&&(h==m) then .full else .any
 |.full=>bif a then(bif h==m then .full else .any) else bif h==len then .full else .any
def eQ(f:Nat)(x:V)(e d b:Option V)(M:Mem):Option V:=
 match x with
 |.slice a c=>
  match gE 0 e,gE a.length d,gE a.length b with
  |some l,I h,I m=>
   bif dP f a&&decide (l<=h)&&decide (h<=m)&&decide (m<=a.length) then
    I (.slice ((a.drop l).take (h -l)) (kp c h m a.length b.isSome))
   else ag
  |_,_,_=>ag
 |.an id ver start len=>
  match M[id]? with
  |some (.aj z a v _)=>
   match gE 0 e,gE len d,gE len b with
   |some l,I h,I m=>bif z==f&&v==ver&&decide (start+len<=a.length)&&decide (l<=h)&&decide (h<=m)&&decide (m<=len) then I (.an id ver (start+l) (h -l)) else ag
   |_,_,_=>ag
  |_=>ag
 |_=>ag
def ul(x:V)(b a:Option V):Option V:=
 match x with
 |.str s=>
  match gE 0 b,gE s.length a with
  |some l,I h=>bif decide (l<=h)&&decide (h<=s.length) then I (.str ((s.drop l).take (h -l))) else ag
  |_,_=>ag
 |_=>ag
def d8(b:Nat)(x i:V)(M:Mem):Option V:=
 match i with
 |.int _ i=>
  bif decide (0<=i) then
   match x with
   |.slice a _=>
    match a[i.toNat]? with
    |some r=>bif r.length==b then I (.eD r) else ag
    |none=>ag
   |.an id ver start len=>
    match M[id]? with
    |some (.aj z a v _)=>bif z==b&&v==ver&&decide (i.toNat<len)&&decide (start+len<=a.length) then I (.df id ver (start+i.toNat) 0) else ag
    |some (.b7 cells v)=>bif b==1&&v==ver&&decide (i.toNat<len)&&decide (start+len<=cells.length) then I (.df id ver (start+i.toNat) 0) else ag
    |_=>ag
   |_=>ag
  else ag
 |_=>ag
def mo(len a:Nat)(x i:V):Option V:=
 match i with
 |.int _ i=>bif decide (0<=i)&&decide (i<(len:Int)) then iF (i.toNat*a) x else ag
 |_=>ag
def qN(x i:V):Option V:=
 match x,i with
 |.str s,.int _ i=>
  bif decide (0<=i) then
   match s[i.toNat]? with
   |some b=>I (.int .u8 b.toNat)
   |none=>ag
  else ag
 |_,_=>ag
def tT(len a:Nat)(b:Bool)(x i:V):Option V:=
 match x,i with
 |.agg cells,.int _ i=>bif decide (0<=i)&&decide (i<(len:Int)) then g6 a b cells (i.toNat*a) else ag
 |_,_=>ag
def eY(x:V)(M:Mem):Option V:=
 match x with
 |.slice a _=>I (.int .i64 a.length)
 |.an id ver _ len=>
  match M[id]? with
  |some (.aj _ _ v _)=>bif v==ver then I (.int .i64 len) else ag
  |some (.b7 _ v)=>bif v==ver then I (.int .i64 len) else ag
  |_=>ag
 |_=>ag
def gF:en->V->V->Option Bool
 |.bool,x,y=>gn .bool x y
 |.int,x,y=>gn .int x y
 |.str,x,y=>gn .str x y
 |.cells a,.agg b,.agg c=>bif b.length==a.length&&c.length==a.length then fk a b c else ag
 |.cells _,_,_=>ag
def nZ(c:en)(key:V):List (V×V)->Option V
 |[]=>ag
 |(k,v)::a=>bif (gF c key k).getD ad then I v else nZ c key a
def gs(c:en)(key:V):List (V×V)->Nat->Option Nat
 |[],_=>ag
 |(k,_)::a,n=>bif (gF c key k).getD ad then I n else gs c key a (n+1)
def lK(c:en)(key val:V):List (V×V)->List (V×V)
 |[]=>[(key,val)]
 |(k,v)::a=>bif (gF c key k).getD ad then(key,val)::a else(k,v)::lK c key val a
def qQ:ex->V->Bool
 |.int,.int _ _=>U
 |.str,.str _=>U
 |.bool,.bool _=>U
 |_,_=>ad
def rX:List ex->List V->Bool
 |[],[]=>U
 |c::a,x::b=>qQ c x&&rX a b
 |_,_=>ad
def iW:en->V->Bool
 |.int,x=>qQ .int x
 |.str,x=>qQ .str x
 |.bool,x=>qQ .bool x
 |.cells a,.agg b=>rX a b
 |.cells _,_=>ad
def k3(c:en)(key:V):List (V×V)->Bool
 |[]=>U
 |(k,_)::a=>(gF c key k).isSome&&k3 c key a
def kv(c:en)(M:Mem)(m key:V):Option (Option V):=
 bif iW c key then
  match m with
  |.hY=>I ag
  |.map id=>
   match M[id]? with
   |some (.map a)=>bif k3 c key a then I (nZ c key a) else ag
   |_=>ag
  |_=>ag
 else ag
def wW(a:Bool)(cells:List V):Option V:=
 match a,cells with
 |true,b=>I (.agg b)
 |false,[x]=>I x
 |false,_=>ag
def lJ(c:en)(zero:List V)(a ok:Bool)(m key:V)(M:Mem):Option V:=
 match kv c M m key,wW a zero with
 |some (I v),I _=>I (match ok with|true=>.tuple [v,.bool U]|false=>v)
 |some ag,I z=>I (match ok with|true=>.tuple [z,.bool ad]|false=>z)
 |_,_=>ag
def AF(c:en)(m key x:V)(M:Mem):Option Mem:=
 match m with
 |.map id=>
  match M[id]? with
  |some (.map a)=>bif iW c key&&k3 c key a&&x.gU then I (M.set id (.map (lK c key x a))) else ag
  |_=>ag
 |_=>ag
def p1(c:en)(zero m key:V)(M:Mem):Option (V×Mem):=
 match m with
 |.map id=>
  match M[id]? with
  |some (.map a)=>
   bif iW c key&&k3 c key a then
    match gs c key a 0 with
    |some i=>(a[i]?).map λb=>(.tuple [b.2,.int .i64 i],M.set id (.map (a.set i (key,b.2))))
    |none=>I (.tuple [zero,.int .i64 a.length],M.set id (.map (a++[(key,zero)])))
   else ag
  |_=>ag
 |_=>ag
def r6(m st x:V)(M:Mem):Option (V×Mem):=
 match m,st with
 |.map id,.int _ i=>
  match M[id]? with
  |some (.map a)=>
   bif decide (0<=i)&&x.gU then
    (a[i.toNat]?).map λb=>(.undef,M.set id (.map (a.set i.toNat (b.1,x))))
   else ag
  |_=>ag
 |_,_=>ag
def iI(a:List (List V)):Nat->List (List V)->List (List V)
 |_,[]=>a
 |i,r::b=>iI (a.set i r) (i+1) b
def kr(c:Nat)(d x:V)(M:Mem):Option (V×Mem):=
 match d,dg c M x with
 |.an id ver start len,I e=>
  match M[id]? with
  |some (.aj z b v a)=>
   bif z==c&&v==ver&&decide (start+len<=b.length)&&decide (a<=start) then
    I (.int .i64 (min len e.length:Nat),M.set id (.aj z (iI b start (e.take len)) v a))
   else ag
  |_=>ag
 |_,_=>ag
def sM(e:Nat)(x h m:V)(M:Mem):Option (V×Mem):=
 match x with
 |.an id ver 0 len=>
  match M[id]?,h,m with
  |some (.aj z d v f),.int _ a,.int _ b=>
   bif z==e&&v==ver&&decide (len<=d.length)&&decide (0<=a)&&decide (a=b)&&decide (a.toNat<=len)&&decide (0<d.length) then
    I (.slice (d.take a.toNat) .full,M.set id (.aj z d v (max f a.toNat)))
   else ag
  |_,_,_=>ag
 |.slice d c=>(eQ e (.slice d c) ag (I h) (I m) M).map (·,M)
 |_=>ag
def kg(x:V)(M:Mem):Option (V×Mem):=
 match x with
 |.an id ver 0 len=>
  match M[id]? with
  |some (.aj z a v b)=>
   bif v==ver&&decide (len<=a.length) then
    bif decide (0<len) then I (.slice (a.take len) .bF,M.set id (.aj z a v (max b len))) else I (.slice [] .bF,M)
   else ag
  |_=>ag
 |v=>I (v,M)
def qW(x:V)(M:Mem):Option (V×Mem):=
 match dZ 1 ad x M with
 |some v=>kg v M
 |none=>ag
def q8(c a b:V):Option V:=
 match c with
 |.bool t=>I (bif t then a else b)
 |_=>ag
def kx(x:V):Option V:=bif Z7 x then I x else ag
def qA(k:IntKind)(x:V):Option V:=
 match x with
 |.int _ n=>I (.int k (k.wrap n))
 |_=>ag
def tC(x:V):Option V:=
 match x with
 |.str b=>I (.str b)
 |_=>ag
def tx:List (List V)->Option (List UInt8)
 |[]=>I []
 |[.int .u8 n]::a=>(tx a).map (UInt8.ofNat n.toNat::·)
 |_=>ag
def oG(x:V)(M:Mem):Option V:=
 match dg 1 M x with
 |some a=>(tx a).map .str
 |none=>ag
def sy(f:Nat)(a:List V):V:=bif fL a then .cI f a else .fn f a
def se(off n:Nat)(a:Bool)(x:V):Option V:=
 match x with
 |.agg cells=>g6 n a cells off
 |_=>ag
def sp(x:V):Option V:=
 match x with
 |.str b=>I (.int .i64 b.length)
 |_=>ag
def sc(x:V)(i:Nat):Option V:=
 match x with
 |.tuple a=>a[i]?
 |_=>ag
def uR(n:Nat)(x:V)(M:Mem):Option (V×Mem):=
 match x.cells? with
 |some a=>bif a.length==n then I (.ptr M.length 0,M++[.box a]) else ag
 |none=>ag
def r1(zero:List V)(dp:List (Nat×Nat×V)):Option V:=
 match ml zero dp with
 |some a=>I (.agg a)
 |none=>ag
def r0(zero:List V)(b len:Nat)(dp:List (Nat×Nat×V)):Option V:=
 match ml zero dp with
 |some a=>bif fL a then I (.slice (oI b len a) .full) else ag
 |none=>ag
def oF(zero:List V)(len:Nat)(dp:List (Nat×Nat×V))(M:Mem):Option (V×Mem):=
 match ml zero dp with
 |some a=>I (.an M.length 0 0 len,M++[.b7 a 0])
 |none=>ag
def jq(zero:List V)(a bytes:Nat)(l c:V)(M:Mem):Option (V×Mem):=
 match l,c with
 |.int _ l,.int _ c=>bif decide (0<=l)&&decide (l<=c)&&decide (c*bytes<=2^48)&&decide (c<2^62) then I (.an M.length 0 0 l.toNat,M++[.aj a (d_ l.toNat zero) 0 0]) else ag
 |_,_=>ag
def t1(zero:V)(bytes:Nat)(l c:V)(M:Mem):Option (V×Mem):=
 match l with
 |.int _ n=>
  match jq [zero] 1 bytes l c M with
  |some (v,_)=>I (v,M++[.b7 (d_ n.toNat zero) 0])
  |none=>ag
 |_=>ag
def sw(r:Option V)(M:Mem):Option (V×Mem):=
 match r with
 |none=>I (.map M.length,M++[.map []])
 |some (.int _ _)=>I (.map M.length,M++[.map []])
 |some _=>ag
def vH(x:V)(M:Mem):Option V:=
 match x with
 |.an id ver 0 1=>
  match M[id]? with
  |some (.b7 [a] v)=>bif v==ver&&a.gU then I a else ag
  |_=>ag
 |_=>ag
def uO(b bytes:Nat)(a c:V)(M:Mem):Option (V×Mem):=
 match a with
 |.an id ver 0 len=>
  match M[id]? with
  |some (.b7 cells v)=>
   bif b==1&&v==ver&&len==cells.length&&decide ((cells.length+1)*(2*bytes)<=2^48) then
    I (.an id (ver+1) 0 (len+1),M.set id (.b7 (cells++[c]) (ver+1)))
   else ag
  |_=>ag
 |_=>ag
def cw(imm:Bool)(b bytes:Nat)(a x:V)(M:Mem):Option (V×Mem):=
 match dg b M x with
 |some d=>eU imm b bytes a d M
 |none=>
  match vH x M with
  |some c=>uO b bytes a c M
  |none=>ag
def gv(o:cH)(s:av)(M:Mem):Option V:=
 match o with
 |.gG x=>I (aw s x)
 |.pick c a b=>q8 (aw s c) (aw s a) (aw s b)
 |.build zero dp=>r1 zero (iB s dp)
 |.buildSlice zero d len dp=>r0 zero d len (iB s dp)
 |.load n e a=>dZ n e (aw s a) M
 |.nilCheck x=>kx (aw s x)
 |.cp op p x y=>cT op p (aw s x) (aw s y)
 |.un op x=>rq op (aw s x)
 |.conv k x=>qA k (aw s x)
 |.pD x=>tC (aw s x)
 |.nN x=>oG (aw s x) M
 |.jQ f l=>I (sy f (d5 s l))
 |.slice d x h g j=>eQ d (aw s x) (dO s h) (dO s g) (dO s j) M
 |.qe x h g=>ul (aw s x) (dO s h) (dO s g)
 |.fieldAddr off x=>iF off (aw s x)
 |.field off n e x=>se off n e (aw s x)
 |.eM len d x i=>mo len d (aw s x) (aw s i)
 |.gq d x i=>d8 d (aw s x) (aw s i) M
 |.mq x i=>qN (aw s x) (aw s i)
 |.oP len d e x i=>tT len d e (aw s x) (aw s i)
 |.nX x=>eY (aw s x) M
 |.k4 x=>sp (aw s x)
 |.pY n=>I (.int .i64 n)
 |.k7 j x y=>oU j (aw s x) (aw s y)
 |.extract x i=>sc (aw s x) i
 |.lookup c zero e ok m k=>lJ c zero e ok (aw s m) (aw s k) M
 |_=>ag
def t9(a:Nat)(M:Mem):Option (V×Mem):=I (.an M.length 0 0 0,M++[match a with|0=>.b7 [] 0|n+1=>.aj (n+1) [] 0 0])
def wx(zero:List V)(M:Mem):Option (V×Mem):=I (.ptr M.length 0,M++[.box zero])
def qf(n:Nat)(a x:V)(M:Mem):Option (V×Mem):=
 match uo n a x M with
 |some b=>I (.undef,b)
 |none=>ag
def t2(c:en)(m k x:V)(M:Mem):Option (V×Mem):=
 match AF c m k x M with
 |some a=>I (.undef,a)
 |none=>ag
def sE(neg:Bool)(x y:V)(M:Mem):Option (V×Mem):=
 match x,y with
 |.ptr i o,.ptr j p=>
  match M[i]?,M[j]? with
  |some (.box _),I (.box _)=>I (.bool ((decide (i=j)&&decide (o=p)) !=neg),M)
  |_,_=>ag
 |_,_=>ag
def vP(x:V)(M:Mem):Option (V×Mem):=
 match x with
 |.map id=>
  match M[id]? with
  |some (.map a)=>I (.ptr M.length 0,M++[.iter id a.length []])
  |_=>ag
 |_=>ag
def tH(x:V)(M:Mem):Option (V×Mem):=
 match x with
 |.ptr id 0=>
  match M[id]? with
  |some (.iter mid n seen)=>
   match M[mid]?,seen.getLast? with
   |some (.map a),I i=>bif dG a.length n then(a[i]?).map (λb=>(.tuple [b.1,b.2],M)) else ag
   |_,_=>ag
  |_=>ag
 |_=>ag
def vy(x:V)(M:Mem):Option (V×Mem):=
 match x with
 |.map id=>
  match M[id]? with
  |some (.map a)=>I (.int .i64 a.length,M)
  |_=>ag
 |_=>ag
def kw(o:cH)(s:av)(M:Mem):Option (V×Mem):=
 match o with
 |.lL b=>t9 b M
 |.alloc zero=>wx zero M
 |.box n x=>uR n (aw s x) M
 |.store n a x=>qf n (aw s a) (aw s x) M
 |.makeSlice zero b bytes l c=>jq zero b bytes (aw s l) (aw s c) M
 |.mf zero len dp=>oF zero len (iB s dp) M
 |.oT zero bytes l c=>t1 zero bytes (aw s l) (aw s c) M
 |.append imm b bytes a x=>cw imm b bytes (aw s a) (aw s x) M
 |.makeMap r=>sw (dO s r) M
 |.mapUpdate c m k x=>t2 c (aw s m) (aw s k) (aw s x) M
 |.mapEntry c z m k=>p1 c z (aw s m) (aw s k) M
 |.entryStore m st x=>r6 (aw s m) (aw s st) (aw s x) M
 |.copy b d x=>kr b (aw s d) (aw s x) M
 |.nY x=>qW (aw s x) M
 |.nf x=>kg (aw s x) M
 |.qd b x h m=>sM b (aw s x) (aw s h) (aw s m) M
 |.lO neg x y=>sE neg (aw s x) (aw s y) M
 |.p8 x=>vP (aw s x) M
 |.pH x=>tH (aw s x) M
 |.pZ x=>vy (aw s x) M
 |_=>ag
def cH.gb:cH->Bool
 |.lL _|.alloc _|.box _ _|.store _ _ _|.makeSlice _ _ _ _ _|.oT _ _ _ _|.mf _ _ _|.append _ _ _ _ _|.makeMap _|.mapUpdate _ _ _ _|.mapEntry _ _ _ _|.entryStore _ _ _|.copy _ _ _|.qd _ _ _ _|.nY _|.nf _|.lO _ _ _|.p8 _|.n2 _|.pH _|.pZ _=>U
 |_=>ad
def qJ(P:Program)(f:Nat):Bool:=
 match P.funcs[f]? with
 |some fn=>fn.body.isSome&&fn.name != "runtime.NumGoroutine"
 |none=>ad
def bx(P:Program)(f:Nat)(args:List V)(M:Mem)(R:V->Mem->Prop):Prop:=
 qJ P f=U/\∀(w:World)(Γ:Env)(d:Array Value),Good w Γ M->dz w Γ args d->
  Calls P f d w (λe a=>∃v g b c,e=.returned g/\R v c/\a_ a b v g/\Good a b c/\Ext w Γ a b)
def bx.mono{P:Program}{f:Nat}{args:List V}{M:Mem}{R b:V->Mem->Prop}(h:bx P f args M R)(l:∀v a,R v a->b v a):bx P f args M b:=
 ⟨h.1,λw Γ c k j=>(h.2 w Γ c k j).mono λ_ _ ⟨v,d,m,a,e,g,i⟩=>⟨v,d,m,a,e,l v a g,i⟩⟩
def bq(P:Program)(f:Nat)(args:List V)(R:V->Prop):Prop:=
 bx P f args [] (λv a=>R v/\a=[]/\v.under 0=U)
def bq.mono{P:Program}{f:Nat}{args:List V}{R d:V->Prop}(h:bq P f args R)(e:∀v,R v->d v):bq P f args d:=
 bx.mono h λ_ _ ⟨a,b,c⟩=>⟨e _ a,b,c⟩
def V.xm:V->Bool
 |.bool _|.int _ _|.str _|.db|.ff|.hY=>U
 |_=>ad
def lW(P:Program)(q:Bool)(f:Nat)(args:List V)(M:Mem)(K:V->Mem->Prop):Prop:=
 match q with
 |false=>bx P f args M K
 |true=>∃v,bx P f args M (λx a=>x=v/\a=M)/\K v M
def hC(o:Option V)(K:V->Prop):Prop:=
 match o with
 |some v=>K v
 |none=>False
def pp(o:Option V)(K:Bool->Prop):Prop:=
 match o with
 |some (.bool b)=>K b
 |_=>False
def ps(o:Option (V×Mem))(K:V->Mem->Prop):Prop:=
 match o with
 |some (v,M)=>K v M
 |none=>False
def ir(b:Bool)(A B:Prop):Prop:=
 match b with
 |true=>A
 |false=>B
def kj(P:Program)(q:Bool)(f:V)(args:List V)(M:Mem)(K:V->Mem->Prop):Prop:=
 match f with
 |.cI f a=>lW P q f (args++a) M K
 |.fn f a=>lW P q f (args++a) M K
 |_=>False
def i4(s:av)(a:Option Nat)(c:Bool)(v:V)(K:av->Prop):Prop:=
 match c with
 |true=>pp (I v) (λb=>K (a4 s a (.bool b)))
 |false=>K (a4 s a v)
def oi(x:V)(M:Mem)(K:V->Mem->Prop):Prop:=
 match x with
 |.ptr id 0=>
  match M[id]? with
  |some (.iter mid n seen)=>
   match M[mid]? with
   |some (.map b)=>b.length=n/\((∀i,i<n->i∈seen)->K (.tuple [.bool ad]) M)/\
     ∀i a,b[i]? =I a->i∉seen->K (.tuple [.bool U,a.1,a.2]) (M.set id (.iter mid n (seen++[i])))
   |_=>False
  |_=>False
 |_=>False
def sg(x y:V):Bool:=
 match x,y with
 |.cq _,.cq _=>U
 |_,_=>ad
def pk(neg:Bool)(x y:V)(M:Mem)(K:V->Mem->Prop):Prop:=
 match sg x y with
 |true=>K (.bool U) M/\K (.bool ad) M
 |false=>ps (sE neg x y M) K
def wpOp(P:Program)(q:Bool)(o:cH)(c:Option Nat)(d:Bool)(s:av)(M:Mem)(K:av->Mem->Prop):Prop:=
 match o with
 |.call f args=>lW P q f (d5 s args) M (λv a=>i4 s c d v (λe=>K e a))
 |.fM g args=>kj P q (aw s g) (d5 s args) M (λv a=>i4 s c d v (λe=>K e a))
 |.n2 x=>oi (aw s x) M (λv a=>K (a4 s c v) a)
 |.lO neg x y=>pk neg (aw s x) (aw s y) M (λv a=>K (a4 s c v) a)
 |op=>
  match op.gb with
  |true=>ps (kw op s M) (λv a=>K (a4 s c v) a)
  |false=>
   match d with
   |true=>pp (gv op s M) (λb=>K (a4 s c (.bool b)) M)
   |false=>hC (gv op s M) (λv=>K (a4 s c v) M)
def wpOps(P:Program)(q:Bool):List bg->av->Mem->(av->Mem->Prop)->Prop
 |[],s,M,k=>k s M
 |⟨a,op,f,ag⟩::c,s,M,k=>wpOp P q op a f s M (λe d=>wpOps P q c e d k)
 |⟨a,op,f,I (g,h)⟩::c,s,M,k=>
  match aE s g with
  |.bool b=>
   match h with
   |true=>ir b (wpOp P q op a f (dQ s g (.bool U)) M (λe d=>wpOps P q c e d k)) (wpOps P q c (a4 (dQ s g (.bool ad)) a (.tuple [])) M k)
   |false=>ir b (wpOps P q c (a4 (dQ s g (.bool U)) a (.tuple [])) M k) (wpOp P q op a f (dQ s g (.bool ad)) M (λe d=>wpOps P q c e d k))
  |.tuple []=>wpOps P q c (a4 s a (.tuple [])) M k
  |_=>False
theorem aet{neg:Bool}{x y:V}{M:Mem}{K b:V->Mem->Prop}(h:pk neg x y M K)(a:∀v M,K v M->b v M):pk neg x y M b:=by
 unfold pk at h⊢;cases c:sg x y with
 |true=>rw[c] at h;exact⟨a _ _ h.1,a _ _ h.2⟩
 |false=>
  rw[c] at h;simp only at h⊢;cases d:sE neg x y M with
  |none=>rw[d] at h;exact h.elim
  |some p=>obtain⟨v,e⟩:=p;rw[d] at h;exact a _ _ h
theorem aer{x:V}{M:Mem}{K e:V->Mem->Prop}(h:oi x M K)(f:∀v M,K v M->e v M):oi x M e:=by
 cases x with
 |ptr id off=>
  cases off with
  |succ _=>exact h.elim
  |zero=>
  simp only[oi] at h⊢;cases c:M[id]? with
  |none=>simp only[c] at h
  |some B=>
   cases B with
   |iter mid n seen=>
    simp only[c] at h⊢;cases d:M[mid]? with
    |none=>simp only[d] at h
    |some g=>
     cases g with
     |map k=>simp only[d] at h⊢;exact⟨h.1,λa=>f _ _ (h.2.1 a),λi j a b=>f _ _ (h.2.2 i j a b)⟩
     |_=>simp only[d] at h
   |_=>simp only[c] at h
 |_=>exact h.elim
def f8(P:Program)(q:Bool)(o:bg)(s:av)(M:Mem)(K:av->Mem->Prop):Prop:=
 match o with
 |⟨a,op,c,ag⟩=>wpOp P q op a c s M K
 |⟨a,op,c,I (g,d)⟩=>
  match aE s g with
  |.bool b=>
   match d with
   |true=>ir b (wpOp P q op a c (dQ s g (.bool U)) M K) (K (a4 (dQ s g (.bool ad)) a (.tuple [])) M)
   |false=>ir b (K (a4 (dQ s g (.bool U)) a (.tuple [])) M) (wpOp P q op a c (dQ s g (.bool ad)) M K)
  |.tuple []=>K (a4 s a (.tuple [])) M
  |_=>False
def qj(P:Program):List bg->List Bool->av->Mem->(av->Mem->Prop)->Prop
 |o::b,q::c,s,M,k=>f8 P q o s M (λd a=>qj P b c d a k)
 |_,_,s,M,k=>k s M
def k6:List (Nat×(Mem->Prop))->Nat->Mem->Prop
 |[],_,_=>False
 |(i,p)::H,j,M=>
  match dG i j with
  |true=>p M
  |false=>k6 H j M
def i6(H:List (Nat×(Mem->Prop))):List Nat->Mem->Prop
 |[],_=>True
 |j::a,M=>k6 H j M/\i6 H a M
def m2(s:av):Option Nat->V
 |some d=>aE s d
 |none=>.undef
def Ci(P:Program)(f:Nat)(args:List V)(d:Bool)(v:V)(a:Mem):Prop:=bx P f args a (λx c=>x=v/\c=a)/\(d=U->∃b,v=.bool b)
def e_(P:Program)(o:bg)(s:av)(v:V)(a:Mem):Prop:=
 match o.op with
 |.call f args=>Ci P f (d5 s args) o.sm v a
 |op=>gv op s a=I v
def j6(P:Program):List bg->List (Option (List Nat))->Nat->List (Nat×(Mem->Prop))->av->Mem->(av->Mem->Prop)->Prop
 |o::d,ag::c,n,H,s,M,k=>f8 P U o s M (λb a=>j6 P d c (n+1) ((n,e_ P o s (m2 b o.dst))::H) b a k)
 |o::d,I l::c,n,H,s,M,k=>f8 P ad o s M (λb a=>i6 H l a/\j6 P d c (n+1) H b a k)
 |_,_,_,_,s,M,k=>k s M
def yx(P:Program)(f:Nat)(args:List V)(M:Mem)(n:Nat)(B:au)(k:V->Mem->Prop):Prop:=
 ∃v a,a[n]? =I .dead/\bx P f args M (λx N=>x=v/\N=a)/\bx P f args (M.set n B) (λx N=>x=v/\N=a.set n B)/\k v a
def ll(P:Program)(z:List V)(n c:Nat):List bg->List (Option (List Nat))->Nat->List (Nat×(Mem->Prop))->av->Mem->(av->Mem->Prop)->Prop
 |o::d,ag::b,q,H,s,M,k=>f8 P U o s M (λe a=>ll P z n c d b (q+1) ((q,e_ P o s (m2 e o.dst))::H) e a k)
 |o::d,I l::b,q,H,s,M,k=>
  match dG q c with
  |true=>i6 H l (M.set n (.box z))/\j6 P d b (q+1) H (a4 s o.dst (.ptr n 0)) (M.set n (.box z)) k
  |false=>
   match o.op with
   |.call f args=>yx P f (d5 s args) M n (.box z) (λv a=>i4 s o.dst o.sm v (λe=>i6 H l a/\ll P z n c d b (q+1) H e a k))
   |_=>False
 |_,_,_,_,_,_,_=>False
def gu(n:Nat)(a:List V)(M:Mem):Bool:=decide (n<=M.length)&&cd n a&&b4 n (M.take n)
def pf(next:(Exit->av->Mem->Prop)->av->Mem->Prop)(Q:Exit->av->Mem->Prop):Exit->av->Mem->Prop
 |.normal,s,M=>next Q s M
 |e,s,M=>Q e s M
def m0(id:Nat)(Q:Exit->av->Mem->Prop):Exit->av->Mem->Prop
 |.exit a,s,M=>bif a==id then Q .normal s M else Q (.exit a) s M
 |e,s,M=>Q e s M
def lf(bt:Nat->List V->Mem->Prop)(n len:Nat)(a:List Nat)(Q:Exit->av->Mem->Prop):Exit->av->Mem->Prop
 |.normal,s,M=>(∃m,m<n/\bt m (cC s a) M)∨(gu len (cC s a) M=U/\∃m,m<n/\bt m (cC s a) (M.take len))
 |e,s,M=>Q e s M
def qS(a:List V->Mem->Prop)(l:Nat)(c:List Nat)(Q:Exit->av->Mem->Prop):Exit->av->Mem->Prop
 |.goto b,s,M=>b=l/\a (cC s c) M
 |e,s,M=>Q e s M
def ck(P:Program):bu->(Exit->av->Mem->Prop)->av->Mem->Prop
 |.skip,Q,s,M=>Q .normal s M
 |.label,Q,s,M=>Q .normal s M
 |.region g d,Q,s,M=>wpOps P ad g s M (λh f=>Q .normal (fQ h d) f)
 |.mixed g o d,Q,s,M=>qj P g o s M (λh f=>Q .normal (fQ h d) f)
 |.float g k d,Q,s,M=>j6 P g k 0 [] s M (λh f=>Q .normal (fQ h d) f)
 |.oN c z g k d,Q,s,M=>ll P z M.length c g k 0 [] s (M++[.dead]) (λh f=>Q .normal (fQ h d) f)
 |.seq a b,Q,s,M=>ck P a (pf (ck P b) Q) s M
 |.cond c a b,Q,s,M=>
  match aw s c with
  |.bool t=>ir t (ck P a Q s M) (ck P b Q s M)
  |_=>False
 |.block id a,Q,s,M=>ck P a (m0 id Q) s M
 |.loop d a,Q,s,M=>
  ∃(bt:Nat->List V->Mem->Prop)(n:Nat),bt n (cC s d) M/\
   ∀n e i,bt n e i->ck P a (lf bt n M.length d Q) (jB d e) i
 |.scope l d a cJ,Q,s,M=>
  ∃(j:Nat->List V->Mem->Prop),
   ck P a (qS (λe M=>∃n,j n e M) l d Q) s M/\
   ∀n e i,j n e i->ck P cJ (qS (λe M=>∃m,m<n/\j m e M) l d Q) (jB d e) i
 |.exit id,Q,s,M=>Q (.exit id) s M
 |.goto l,Q,s,M=>Q (.goto l) s M
 |.ret,Q,s,M=>Q .ret s M
def vT(s:av)(M:Mem):jF->Option V
 |.tmp t=>I (aE s t)
 |.cell t n a=>dZ n a (aE s t) M
def sH(s:av)(M:Mem):List jF->Option (List V)
 |[]=>I []
 |r::a=>
  match vT s M r,sH s M a with
  |some v,I b=>I (v::b)
  |_,_=>ag
def lQ(s:av)(M:Mem)(a:List jF):Option V:=
 match sH s M a with
 |some [v]=>I v
 |some b=>I (.tuple b)
 |none=>ag
def iT(a:List jF)(R:Option V->Mem->Prop):Exit->av->Mem->Prop
 |.normal,s,M=>R (lQ s M a) M
 |.ret,s,M=>R (lQ s M a) M
 |_,_,_=>False
def k1(R:V->Mem->Prop)(v:Option V)(M:Mem):Prop:=
 match v with
 |some v=>R v M
 |none=>False
def dN(P:Program)(fn:aU)(args:List V)(M:Mem)(R:V->Mem->Prop):Prop:=
 ck P fn.body (iT fn.results (k1 R)) (nq args 0) M
def eO(f:V->Option V):List V->Option (List V)
 |[]=>I []
 |x::a=>
  match f x,eO f a with
  |some y,I b=>I (y::b)
  |_,_=>ag
def cY(M:Mem)(bf:Nat):Nat->V->Option V
 |0,v=>bif v.under bf then I v else ag
 |n+1,v=>
  match v with
  |.ptr id off=>
   bif decide (id<bf) then I (.ptr id off) else
   match M[id]? with
   |some (.box cells)=>
    match eO (cY M bf n) (cells.drop off) with
    |some a=>bif fL a&&decide (off<=cells.length) then I (match off,a with|0,_::_=>.cq a|_,_=>.eD a) else ag
    |none=>ag
   |_=>ag
  |.an id ver start len=>
   bif decide (id<bf) then I (.an id ver start len) else
   match M[id]? with
   |some (.aj _ b v _)=>bif v==ver&&decide (start+len<=b.length) then I (.slice ((b.drop start).take len) .bF) else ag
   |some (.b7 cells v)=>
    bif v==ver&&decide (start+len<=cells.length) then
     match eO (cY M bf n) ((cells.drop start).take len) with
     |some a=>bif fL a then I (.slice (a.map λx=>[x]) .bF) else ag
     |none=>ag
    else ag
   |_=>ag
  |.fn f c=>
   match eO (cY M bf n) c with
   |some a=>I (bif fL a then .cI f a else .fn f a)
   |none=>ag
  |.agg cells=>(eO (cY M bf n) cells).map .agg
  |.tuple d=>(eO (cY M bf n) d).map .tuple
  |v=>bif v.under bf then I v else ag
def sF(bf:Nat)(R:V->Mem->Prop)(v:Option V)(a:Mem):Prop:=
 match v with
 |some v=>hC (cY a bf 20 v) λb=>(b.under bf&&decide (bf<=a.length)&&b4 bf (a.take bf))=U/\R b (a.take bf)
 |none=>False
def Cd(P:Program)(fn:aU)(args:List V)(M:Mem)(R:V->Mem->Prop):Prop:=
 ck P fn.body (iT fn.results (sF M.length R)) (nq args 0) M
def wS:Value->Option V
 |.bool b=>I (.bool b)
 |.int k n=>I (.int k n)
 |.string s=>I (.str s.data.toList)
 |.pointer ag=>I .db
 |.slice ag 0 0=>I (.slice [] .nil)
 |.map ag=>I .hY
 |.nilFunc=>I .ff
 |_=>ag
def r5:List Value->Option (List V)
 |[]=>I []
 |v::a=>
  match wS v,r5 a with
  |some x,I b=>I (x::b)
  |_,_=>ag
def zE:Value->Option V
 |.agg a=>(r5 a.toList).map .agg
 |v=>wS v
def bJ:Operand->Option aA
 |.tmp t=>I (.tmp t)
 |.const v=>(zE v).map .const
 |.func f=>I (.const (.cI f []))
 |.global _=>ag
def o3:List Operand->Option (List aA)
 |[]=>I []
 |x::a=>
  match bJ x,o3 a with
  |some y,I b=>I (y::b)
  |_,_=>ag
def gt:Option Operand->Option (Option aA)
 |none=>I ag
 |some x=>(bJ x).map I
def iw(P:Program)(t:TypeId):Option Bool:=
 match P.underlying t with
 |some (.struct _)=>I U
 |some (.array _ _)=>I U
 |some _=>I ad
 |none=>ag
def d3(P:Program)(t:TypeId):Option Nat:=
 match P.info? t with
 |some i=>I i.size
 |none=>ag
def jb(P:Program)(t:TypeId):Option (List V):=
 match P.info? t with
 |some i=>
  match i.zero with
  |some v=>r5 v.cells.toList
  |none=>ag
 |none=>ag
def tZ(P:Program)(t:TypeId):Bool:=
 match P.info? t with
 |some i=>
  match i.zero with
  |some (.agg _)=>ad
  |some _=>U
  |none=>ad
 |none=>ad
def jY(P:Program)(t:TypeId):Option ex:=
 match P.underlying t with
 |some .bool=>I .bool
 |some (.int _)=>I .int
 |some .string=>I .str
 |_=>ag
def pe(P:Program):Nat->List Field->Option (List ex)
 |_,[]=>I []
 |n,f::a=>
  match jY P f.type,iw P f.type,pe P (n+1) a with
  |some k,I ad,I b=>if f.name != "_"&&f.offset==n then I (k::b) else ag
  |_,_,_=>ag
def qT(P:Program):Nat->List Field->Option (List ex)
 |_,[]=>I []
 |n,f::b=>
  if f.name != "_"&&f.offset==n then
   match jY P f.type with
   |some k=>
    match iw P f.type,qT P (n+1) b with
    |some ad,I a=>I (k::a)
    |_,_=>ag
   |none=>
    match P.underlying f.type,d3 P f.type,iw P f.type with
    |some (.struct c),I m,I U=>
     match pe P 0 c.toList,qT P (n+m) b with
     |some a,I d=>if a.length==m&&decide (0<m)&&!P.stoodInHeld f.type then I (a++d) else ag
     |_,_=>ag
    |_,_,_=>ag
  else ag
def k2(P:Program)(t:TypeId):Option en:=
 match jY P t with
 |some .bool=>I .bool
 |some .int=>I .int
 |some .str=>I .str
 |none=>
  match P.underlying t with
  |some (.struct a)=>
   match qT P 0 a.toList with
   |some b=>if !P.stoodInHeld t then I (.cells b) else ag
   |none=>ag
  |some (.array n e)=>
   match jY P e,iw P e with
   |some k,I ad=>if d3 P e==I 1 then I (.cells (d_ n k)) else ag
   |_,_=>ag
  |_=>ag
def tI(P:Program)(t:TypeId):hB:=
 match P.underlying t with
 |some .bool=>.bool
 |some (.pointer _)=>.ptr
 |some (.slice _)=>.slice
 |some (.map _ _)=>.map
 |some (.func _ _ _)=>.fn
 |some (.struct a)=>
  match pe P 0 a.toList with
  |some b=>if !P.stoodInHeld t&&!P.eqGuardType P.depth t then .cells b else .none
  |none=>.none
 |some (.array n e)=>
  match jY P e,iw P e with
  |some k,I ad=>if d3 P e==I 1&&!P.eqGuardType P.depth t then .cells (d_ n k) else .none
  |_,_=>.none
 |_=>.none
def uf(P:Program)(t:TypeId):Bool:=
 match P.underlying t with
 |some (.pointer e)=>match d3 P e with|some n=>decide (0<n)|none=>ad
 |_=>ad
def ud(P:Program)(a:Array Field):List (Nat×Operand)->Option (List (Nat×Nat×aA))
 |[]=>I []
 |(i,x)::cJ=>
  match a[i]?,bJ x,ud P a cJ with
  |some f,I y,I r=>
   match d3 P f.type with
   |some n=>I ((f.offset,n,y)::r)
   |none=>ag
  |_,_,_=>ag
def o7(n:Nat):List (Nat×Operand)->Option (List (Nat×Nat×aA))
 |[]=>I []
 |(i,x)::cJ=>
  match bJ x,o7 n cJ with
  |some y,I r=>I ((i*n,n,y)::r)
  |_,_=>ag
def n5:Nat->List V->List V
 |0,_=>[]
 |n+1,z=>z++n5 n z
def nM{α β c:Type}(x:Option α)(y:Option β)(f:α->β->c):Option c:=
 match x,y with
 |some a,I b=>I (f a b)
 |_,_=>ag
def An:Operand->Bool
 |.const (.slice ag 0 0)=>U
 |_=>ad
def X5:Operand->Bool
 |.const _=>U
 |_=>ad
def Cg(P:Program)(e:TypeId)(n:Nat):Bool:=
 match jb P e with
 |some z=>z.length==n
 |none=>ad
def rf(P:Program)(b:Builtin)(args:List Operand)(j:List TypeId)(g:Bool):Option cH:=
 match b,args,j with
 |.len,[x],[t]=>
  match P.underlying t with
  |some .string=>(bJ x).map .k4
  |some (.slice _)=>(bJ x).map .nX
  |some (.map _ _)=>(bJ x).map .pZ
  |some (.array n _)=>I (.pY n)
  |some (.pointer a)=>
   match P.underlying a with
   |some (.array n _)=>I (.pY n)
   |_=>ag
  |_=>ag
 |.append,[s,x],[t,ai]=>
  match P.underlying t,P.underlying ai with
  |some (.slice e),I (.slice _)=>
   match P.info? e,(bJ s),(bJ x) with
   |some i,I h,I c=>if decide (0<i.bytes)&&Cg P e i.size then I (.append (X5 s !=g) i.size i.bytes h c) else ag
   |_,_,_=>ag
  |_,_=>ag
 |.copy,[d,x],[t,ai]=>
  match P.underlying t,P.underlying ai with
  |some (.slice e),I (.slice _)=>
   match d3 P e,bJ d,bJ x with
   |some n,I f,I c=>if 0<n then I (.copy n f c) else ag
   |_,_,_=>ag
  |_,_=>ag
 |.max,[x,y],_=>nM (bJ x) (bJ y) (.k7 U)
 |.min,[x,y],_=>nM (bJ x) (bJ y) (.k7 ad)
 |_,_,_=>ag
def Tn(P:Program)(t:TypeId):Option Nat:=
 match P.underlying t with
 |some (.slice e)=>d3 P e
 |_=>ag
def fC(P:Program)(p u:Bool)(E:TypeId):Op->Option cH
 |.move x=>match p with|false=>(bJ x).map .gG|true=>(bJ x).map .nf
 |.assign x=>if p then(if An x then(if u then I (.lL 0) else(Tn P E).map .lL) else(bJ x).map .nf) else(bJ x).map .gG
 |.pick c a b=>
  match bJ c,bJ a,bJ b with
  |some c,I a,I b=>I (.pick c a b)
  |_,_,_=>ag
 |.alloc e=>(jb P e).map .alloc
 |.box e x=>nM (d3 P e) (bJ x) .box
 |.build t dp=>
  match P.underlying t,jb P t with
  |some (.struct j),I z=>if j.toList.all (λf=>(d3 P f.type).isSome) then(ud P j dp.toList).map (.build z) else ag
  |some (.array _ e),I z=>
   match d3 P e with
   |some n=>(o7 n dp.toList).map (.build z)
   |none=>ag
  |_,_=>ag
 |.buildSlice t len dp=>
  match P.underlying t with
  |some (.slice e)=>
   match d3 P e,jb P e with
   |some n,I z=>
    if z.length==n&&0<n&&len*n<=2^20 then
     match u with
     |false=>(o7 n dp.toList).map (.buildSlice (n5 len z) n len)
     |true=>if n==1 then(o7 n dp.toList).map (.mf (n5 len z) len) else ag
    else ag
   |_,_=>ag
  |_=>ag
 |.load t a=>
  match d3 P t,iw P t,bJ a with
  |some n,I d,I a=>
   match p with
   |false=>I (.load n d a)
   |true=>if n==1&&!d then I (.nY a) else ag
  |_,_,_=>ag
 |.store t a x=>
  match d3 P t,bJ a,bJ x with
  |some n,I a,I x=>I (.store n a x)
  |_,_,_=>ag
 |.nilCheck x=>(bJ x).map .nilCheck
 |.binOp op t x y _=>
  match p&&uf P t,op with
  |true,.eql=>nM (bJ x) (bJ y) (.lO ad)
  |true,.neq=>nM (bJ x) (bJ y) (.lO U)
  |_,_=>nM (bJ x) (bJ y) (.cp op (tI P t))
 |.unOp op _ x=>(bJ x).map (.un op)
 |.convert D C x=>
  match P.underlying D,P.underlying C,bJ x with
  |some (.int _),I (.int k),I x=>I (.conv k x)
  |some .string,I .string,I x=>I (.pD x)
  |some (.slice e),I .string,I x=>
   match P.underlying e with
   |some (.int .u8)=>I (.nN x)
   |_=>ag
  |_,_,_=>ag
 |.makeFunc (.func f) first B=>if first.isEmpty then(o3 B.toList).map (.jQ f) else ag
 |.makeMap t r=>
  match P.underlying t with
  |some (.map _ _)=>(gt r).map .makeMap
  |_=>ag
 |.lookup t m k ok=>
  match P.underlying t,bJ m,bJ k with
  |some (.map q e),I m,I k=>
   match jb P e,k2 P q with
   |some [z],I c=>bif tZ P e then I (.lookup c [z] ad ok m k) else ag
   |_,_=>ag
  |_,_,_=>ag
 |.mapUpdate t m k x=>
  match P.underlying t,bJ m,bJ k,bJ x with
  |some (.map q _),I m,I k,I x=>(k2 P q).map (λc=>.mapUpdate c m k x)
  |_,_,_,_=>ag
 |.mapEntry t m k=>
  match P.underlying t,bJ m,bJ k with
  |some (.map q e),I m,I k=>
   match jb P e,k2 P q with
   |some [z],I c=>bif tZ P e&&z.gU then I (.mapEntry c z m k) else ag
   |_,_=>ag
  |_,_,_=>ag
 |.entryStore t m st x=>
  match bJ m,bJ st,bJ x with
  |some m,I st,I x=>I (.entryStore m st x)
  |_,_,_=>ag
 |.makeSlice t l c=>
  match P.underlying t with
  |some (.slice e)=>
   match P.info? e,jb P e,bJ l,bJ c with
   |some i,I z,I l,I c=>
    if z.length==i.size&&fL z&&0<i.size then
     match u,z with
     |false,z=>I (.makeSlice z i.size i.bytes l c)
     |true,[z]=>I (.oT z i.bytes l c)
     |true,_=>ag
    else ag
   |_,_,_,_=>ag
  |_=>ag
 |.slice t x o s w=>
  match P.underlying t,bJ x,gt o,gt s,gt w with
  |some .string,I x,I o,I s,I ag=>I (.qe x o s)
  |some (.slice e),I x,I o,I v,I A=>
   match p,o,v,A with
   |true,ag,I h,I m=>(d3 P e).map (λn=>.qd n x h m)
   |true,_,_,_=>ag
   |false,_,_,_=>if w.isNone||s.isSome then(d3 P e).map (λn=>.slice n x o v A) else ag
  |_,_,_,_,_=>ag
 |.range t x=>
  match P.underlying t with
  |some (.map _ _)=>(bJ x).map .p8
  |_=>ag
 |.next x ad=>(bJ x).map .n2
 |.entry x=>(bJ x).map .pH
 |.fieldAddr t x f=>
  match P.underlying t,bJ x with
  |some (.struct j),I x=>
   match j[f]? with
   |some g=>
    match d3 P g.type with
    |some n=>if n=0 then ag else I (.fieldAddr g.offset x)
    |none=>ag
   |none=>ag
  |_,_=>ag
 |.field t x f=>
  match P.underlying t,bJ x with
  |some (.struct j),I x=>
   match j[f]? with
   |some g=>
    match d3 P g.type,iw P g.type with
    |some n,I d=>I (.field g.offset n d x)
    |_,_=>ag
   |none=>ag
  |_,_=>ag
 |.indexAddr t x i=>
  match P.underlying t,bJ x,bJ i with
  |some (.array n e),I x,I i=>(d3 P e).map (λm=>.eM n m x i)
  |some (.slice e),I x,I i=>(d3 P e).map (λm=>.gq m x i)
  |_,_,_=>ag
 |.index t x i=>
  match P.underlying t,bJ x,bJ i with
  |some .string,I x,I i=>I (.mq x i)
  |some (.array n e),I x,I i=>
   match d3 P e,iw P e with
   |some m,I d=>I (.oP n m d x i)
   |_,_=>ag
  |_,_,_=>ag
 |.extract x i=>(bJ x).map (.extract · i)
 |.call c=>
  match c.callee with
  |.builtin b=>rf P b c.args.toList c.argTypes.toList p
  |.value (.func f)=>(o3 c.args.toList).map (.call f)
  |.value f=>nM (bJ f) (o3 c.args.toList) .fM
  |.invoke _ _=>ag
 |_=>ag
def u1(n:Nat)(a:Array Oper)(j:Nat):Option Nat:=
 match a[j]? with
 |some o=>
  match o.dst with
  |some d=>if d<n then I d else ag
  |none=>ag
 |none=>ag
def sG(n:Nat)(a:Array Oper):Option (Nat×Bool)->Option (Option (Nat×Bool))
 |none=>I ag
 |some (j,b)=>(u1 n a j).map λd=>I (d,b)
def vv(P:Program)(t:TypeId):Bool:=
 match P.underlying t with
 |some .bool=>U
 |_=>ad
def o_(P:Program)(n:Nat)(b:List Nat)(c:Array Oper)(i:Nat)(o:Oper):Option bg:=
 match fC P (b.contains i) (b.contains (i+5000)) o.type o.op,sG n c o.guard with
 |some a,I g=>
  match o.dst with
  |none=>I ⟨ag,a,vv P o.type,g⟩
  |some d=>if d<n then I ⟨I d,a,vv P o.type,g⟩ else ag
 |_,_=>ag
def mC(P:Program)(n:Nat)(b:List Nat)(c:Array Oper):Nat->List Oper->Option (List bg)
 |_,[]=>I []
 |i,o::d=>
  match o_ P n b c i o,mC P n b c (i+1) d with
  |some a,I aK=>I (a::aK)
  |_,_=>ag
def cH.aaQ:cH->Bool
 |.buildSlice _ _ _ _=>ad
 |op=>!op.gb
def aA.b3:aA->List Nat
 |.tmp t=>[t]
 |.const _=>[]
def su:Option aA->List Nat
 |some x=>x.b3
 |none=>[]
def ss:List aA->List Nat
 |[]=>[]
 |x::a=>x.b3++ss a
def sv:List (Nat×Nat×aA)->List Nat
 |[]=>[]
 |(_,_,x)::a=>x.b3++sv a
def cH.b3:cH->List Nat
 |.gG x=>x.b3
 |.lL _=>[]
 |.pick c a b=>c.b3++(a.b3++b.b3)
 |.alloc _=>[]
 |.box _ x=>x.b3
 |.build _ e=>sv e
 |.buildSlice _ _ _ e=>sv e
 |.mf _ _ e=>sv e
 |.load _ _ a=>a.b3
 |.store _ a x=>a.b3++x.b3
 |.nilCheck x=>x.b3
 |.cp _ _ x y=>x.b3++y.b3
 |.un _ x=>x.b3
 |.conv _ x=>x.b3
 |.pD x=>x.b3
 |.nN x=>x.b3
 |.jQ _ n=>ss n
 |.makeSlice _ _ _ l c=>l.b3++c.b3
 |.oT _ _ l c=>l.b3++c.b3
 |.slice _ x j g o=>x.b3++(su j++(su g++su o))
 |.qe x j g=>x.b3++(su j++su g)
 |.fieldAddr _ x=>x.b3
 |.field _ _ _ x=>x.b3
 |.eM _ _ x i=>x.b3++i.b3
 |.gq _ x i=>x.b3++i.b3
 |.mq x i=>x.b3++i.b3
 |.oP _ _ _ x i=>x.b3++i.b3
 |.nX x=>x.b3
 |.k4 x=>x.b3
 |.pY _=>[]
 |.append _ _ _ s x=>s.b3++x.b3
 |.k7 _ x y=>x.b3++y.b3
 |.extract x _=>x.b3
 |.makeMap r=>su r
 |.lookup _ _ _ _ m k=>m.b3++k.b3
 |.mapUpdate _ m k x=>m.b3++(k.b3++x.b3)
 |.mapEntry _ _ m k=>m.b3++k.b3
 |.entryStore m st x=>m.b3++(st.b3++x.b3)
 |.copy _ d x=>d.b3++x.b3
 |.qd _ x h m=>x.b3++(h.b3++m.b3)
 |.nY x=>x.b3
 |.nf x=>x.b3
 |.call _ args=>ss args
 |.fM f args=>f.b3++ss args
 |.lO _ x y=>x.b3++y.b3
 |.p8 x=>x.b3
 |.n2 x=>x.b3
 |.pH x=>x.b3
 |.pZ x=>x.b3
def bg.b3(o:bg):List Nat:=
 match o.guard with
 |some (g,_)=>g::o.op.b3
 |none=>o.op.b3
def cH.hX:cH->Bool
 |.call _ _|.fM _ _=>U
 |_=>ad
def k0(l:List Nat)(t:Nat):Bool:=l.any λu=>dG u t
def bg.oB(x y:bg):Bool:=
 (match x.dst with
  |some d=>!k0 y.b3 d&&(match y.dst with|some e=>!dG e d|none=>U)
  |none=>U)&&
 (match y.dst with
  |some d=>!k0 x.b3 d
  |none=>U)
def vB(a:List Nat)(o:Oper):Nat:=
 o.after.toList.foldl (λs e=>bif Region.binds .any e then(s|||2^e.on)|||a.getD e.on 0 else s) 0
def fj:List Oper->List Nat->List Nat
 |[],a=>a
 |o::b,a=>fj b (a++[vB a o])
def pF:Nat->List Oper->Bool
 |_,[]=>U
 |k,o::a=>o.after.toList.all (λe=>!Region.binds .any e||ha e.on k)&&pF (k+1) a
def wC(b:Nat)(y:bg):Nat->List bg->Bool
 |_,[]=>U
 |i,x::a=>(b.testBit i||x.oB y)&&wC b y (i+1) a
def wB(aK:List bg):List Nat->List bg->Bool
 |b::eW,y::a=>wC b y 0 (aK.take (aK.length -a.length -1))&&wB aK eW a
 |_,_=>U
def vd(k:Nat)(b:Nat):Nat->List Nat->Bool
 |_,[]=>U
 |i,c::a=>(bif ha i k then b.testBit i else bif ha k i then c.testBit k else U)&&vd k b (i+1) a
def oW(B:List Nat):Nat->List Nat->List bg->List Bool
 |k,b::eW,o::a=>(!((o.op.gb||o.op.hX)&&vd k b 0 B))::oW B (k+1) eW a
 |_,_,_=>[]
def p2:List Bool->List bg->Bool
 |q::b,o::a=>(!q||!o.op.gb)&&p2 b a
 |_,_=>U
def xA(a:Array Oper)(aK:List bg):Option (List Bool):=
 let B:=fj a.toList []
 let b:=oW B 0 B aK
 bif pF 0 a.toList&&wB aK B aK&&p2 b aK&&Region.noSelect a&&dG aK.length a.size then I b else ag
def firstIdx(p:Nat->Bool):Nat->Nat->Option Nat
 |_,0=>ag
 |i,f+1=>bif p i then I i else firstIdx p (i+1) f
def A4(B:List Nat)(aw:List Bool)(n:Nat):Nat->Nat->List Nat->Option (List Nat)
 |0,_,b=>I b.reverse
 |f+1,a,b=>
  match firstIdx (λi=>!(a.testBit i)&&dG (B.getD i 0&&&a) (B.getD i 0)&&!(aw.getD i U)) 0 n with
  |some i=>A4 B aw n f (a|||2^i) (i::b)
  |none=>
   match firstIdx (λi=>!(a.testBit i)&&dG (B.getD i 0&&&a) (B.getD i 0)) 0 n with
   |some i=>A4 B aw n f (a|||2^i) (i::b)
   |none=>ag
def p5(o:bg):Bool:=
 match o.guard with
 |none=>U
 |some _=>ad
def lz(B ay:List Nat)(i k:Nat):Bool:=(B.getD (ay.getD k 0) 0).testBit (ay.getD i 0)
def lE(B ay:List Nat)(aw:List Bool)(n:Nat):List (Option (List Nat)):=
 (b8 n).map λp=>bif aw.getD (ay.getD p 0) U then I ((b8 p).filter λj=>!lz B ay j p&&!aw.getD (ay.getD j 0) U) else ag
def xU(o:bg):Bool:=
 match o with
 |⟨I _,.alloc _,ad,ag⟩=>U
 |_=>ad
def cH.sn:cH->Bool
 |.call _ _=>U
 |_=>ad
def lD(a:Bool)(o:bg):Bool:=o.op.gb||(o.op.hX&&!(a&&o.op.sn))
def xQ(b:Bool)(B ay:List Nat)(a:List (Option (List Nat)))(aK:List bg)(n p:Nat):Bool:=
 !b&&ha (p+1) n&&xU (aK.getD p default)&&xU (aK.getD (p+1) default)&&(match a.getD (p+1) ag with|some _=>U|none=>ad)&&
  (b8 n).all λi=>!ha (p+1) i||(lz B ay p i&&lz B ay (p+1) i)
def ua(b:Bool)(B ay:List Nat)(a:List (Option (List Nat)))(aK:List bg)(n p:Nat):Bool:=
 match a.getD p ag with
 |none=>!lD b (aK.getD p default)
 |some l=>p5 (aK.getD p default)&&((b8 n).all (λi=>!ha p i||lz B ay p i)||xQ b B ay a aK n p)&&
   (b8 p).all λj=>lz B ay j p||(dG (j+1) p&&xQ b B ay a aK n j)||(k0 l j&&p5 (aK.getD j default)&&(aK.getD j default).dst.isSome&&(match a.getD j (I []) with|none=>U|some _=>ad))
def xB(d:Bool)(b:Array Oper)(aK:List bg):Option (List bg×List (Option (List Nat))):=
 let n:=aK.length
 let B:=fj b.toList []
 let aw:=aK.map (lD d)
 match A4 B aw n n 0 [] with
 |none=>ag
 |some ay=>
  let a:=ay.map λi=>aK.getD i default
  let c:=lE B ay aw n
  bif dG ay.length n&&dG n b.size&&pF 0 b.toList&&(b8 n).all (λk=>k0 ay k)&&
   (b8 n).all (λk=>ha (ay.getD k 0) n&&(b8 k).all λi=>!dG (ay.getD i 0) (ay.getD k 0))&&
   (b8 n).all (λk=>(b8 k).all λi=>lz B ay i k||(a.getD i default).oB (a.getD k default))&&
   (b8 n).all (λp=>ua d B ay c a n p) then I (a,c) else ag
def xN(B:List Nat)(aw:List Bool)(c n:Nat):Nat->Nat->List Nat->Option (List Nat)
 |0,_,b=>I b.reverse
 |f+1,a,b=>
  match firstIdx (λi=>!(a.testBit i)&&dG (B.getD i 0&&&a) (B.getD i 0)&&!(aw.getD i U)) 0 n with
  |some i=>xN B aw c n f (a|||2^i) (i::b)
  |none=>
   match firstIdx (λi=>!(a.testBit i)&&dG (B.getD i 0&&&a) (B.getD i 0)&&!dG i c) 0 n with
   |some i=>xN B aw c n f (a|||2^i) (i::b)
   |none=>
    match firstIdx (λi=>!(a.testBit i)&&dG (B.getD i 0&&&a) (B.getD i 0)) 0 n with
    |some i=>xN B aw c n f (a|||2^i) (i::b)
    |none=>ag
def vG(f:Option (List Nat)):Bool:=
 match f with
 |none=>U
 |some _=>ad
def xH(B ay:List Nat)(a:List (Option (List Nat)))(aK:List bg)(n c p:Nat):Bool:=
 match a.getD p ag with
 |none=>ua ad B ay a aK n p
 |some l=>
  bif ha c p then ua ad B ay a aK n p else
  bif ha p c then p5 (aK.getD p default)&&(b8 n).all (λi=>!ha p i||dG i c||lz B ay p i)&&
   (b8 p).all λj=>lz B ay j p||(k0 l j&&p5 (aK.getD j default)&&(aK.getD j default).dst.isSome&&vG (a.getD j (I [])))
  else(b8 n).all (λi=>!ha c i||lz B ay c i)&&
   (b8 p).all λj=>!vG (a.getD j ag)||lz B ay j p||(k0 l j&&p5 (aK.getD j default)&&(aK.getD j default).dst.isSome)
def AO(e:Nat)(d:Array Oper)(aK:List bg):Option (Nat×List V×List bg×List (Option (List Nat))):=
 let n:=aK.length
 let B:=fj d.toList []
 let aw:=aK.map (lD ad)
 match xN B aw e n n 0 [] with
 |none=>ag
 |some ay=>
  let a:=ay.map λi=>aK.getD i default
  let b:=lE B ay aw n
  match firstIdx (λp=>dG (ay.getD p 0) e) 0 n with
  |none=>ag
  |some c=>
   match a[c]?,b[c]? with
   |some ⟨I _,.alloc z,ad,ag⟩,I (I _)=>
    bif dG ay.length n&&dG n d.size&&pF 0 d.toList&&(b8 n).all (λk=>k0 ay k)&&
     (b8 n).all (λk=>ha (ay.getD k 0) n&&(b8 k).all λi=>!dG (ay.getD i 0) (ay.getD k 0))&&
     (b8 n).all (λk=>(b8 k).all λi=>lz B ay i k||(a.getD i default).oB (a.getD k default))&&
     (b8 n).all (λp=>xH B ay b a n c p) then I (c,z,a,b) else ag
   |_,_=>ag
def I6:List Nat->Option Nat
 |[]=>ag
 |x::a=>bif ha 39999 x then I (x -40000) else I6 a
structure iO where
 live:List (Nat×List Nat):=[]
 loops:List (Nat×List Nat):=[]
 qZ:List (Nat×List Nat):=[]
def look(l:List (Nat×List Nat))(k:Nat):List Nat:=
 match l with
 |[]=>[]
 |(a,b)::r=>bif dG a k then b else look r k
def mm:Code->Nat
 |.region id _ _=>id
 |.seq a b=>min (mm a) (mm b)
 |.cond _ a b=>min (mm a) (mm b)
 |.block _ a=>mm a
 |.loop a=>mm a
 |.scope a=>mm a
 |_=>1000000
def z3:Code->Option Nat
 |.seq a b=>(z3 a).or (z3 b)
 |.label l=>I l
 |_=>ag
def mA(P:Program)(n:Nat)(h:iO):Nat->Code->Option bu
 |0,_=>ag
 |k+1,c=>
  match c with
  |.skip=>I .skip
  |.region id d f=>
   match mC P n (look h.qZ id) d 0 d.toList with
   |some e=>
    if f then
     if P.follows .mixedOrders then
      match bif k0 (look h.qZ id) 9999||k0 (look h.qZ id) 9998 then ag else xA d e with
      |some i=>I (.mixed e i (look h.live id))
      |none=>
       match I6 (look h.qZ id) with
       |some g=>(AO g d e).map (λx=>.oN x.1 x.2.1 x.2.2.1 x.2.2.2 (look h.live id))
       |none=>(xB (k0 (look h.qZ id) 9998) d e).map (λx=>.float x.1 x.2 (look h.live id))
     else ag
    else I (.region e (look h.live id))
   |none=>ag
  |.seq a b=>nM (mA P n h k a) (mA P n h k b) .seq
  |.cond c a b=>
   match bJ c,mA P n h k a,mA P n h k b with
   |some c,I a,I b=>I (.cond c a b)
   |_,_,_=>ag
  |.block id a=>(mA P n h k a).map (.block id)
  |.loop a=>(mA P n h k a).map (.loop (look h.loops (mm a)))
  |.scope a=>
   match z3 a with
   |some l=>
    match findLabel a l with
    |some cJ=>nM (mA P n h k a) (mA P n h k cJ) (.scope l (look h.loops (mm cJ)))
    |none=>ag
   |none=>ag
  |.exit id=>I (.exit id)
  |.label _=>I .label
  |.goto l=>I (.goto l)
  |.ret=>I .ret
  |.rangeFunc _ _ _ _=>ag
  |.refuse _=>ag
def lR(P:Program)(n:Nat):List ResultVar->Option (List jF)
 |[]=>I []
 |.tmp t::a=>(lR P n a).map (.tmp t::·)
 |.cell t b::a=>
  match d3 P b,iw P b,lR P n a with
  |some m,I c,I aK=>I (.cell t m c::aK)
  |_,_,_=>ag
def mB(P:Program)(h:iO)(f:Nat):Option aU:=
 match P.funcs[f]? with
 |some fn=>
  match fn.body with
  |some c=>
   bif fn.name != "runtime.NumGoroutine" then
    match mA P fn.ntmps h 200 c,lR P fn.ntmps fn.results.toList with
    |some b,I a=>I ⟨fn.ntmps,a,b⟩
    |_,_=>ag
   else ag
  |none=>ag
 |none=>ag
theorem O4(v:V)(K:V->Prop):hC (I v) K=K v:=rfl
theorem MQ(A B:Prop):ir U A B=A:=rfl
theorem MN(A B:Prop):ir ad A B=B:=rfl
def uB{p:Prop}[Decidable p]{A B:Prop}(a:p->A)(b:¬p->B):ir (decide p) A B:=by
 by_cases h:p
 . simp only[h,decide_true];exact a h
 . simp only[h,decide_false];exact b h
theorem MP{b:Bool}{A B:Prop}(a:b=U->A)(c:b=ad->B):ir b A B:=by
 cases b
 . exact c rfl
 . exact a rfl
theorem MO(b:Bool)(A B:Prop):ir (!b) A B=ir b B A:=by cases b<;>rfl
theorem My(P:Program)(a b:bu)(Q:Exit->av->Mem->Prop)(s:av)(M:Mem):ck P (.seq a b) Q s M=ck P a (pf (ck P b) Q) s M:=rfl
theorem aep(P:Program)(Q:Exit->av->Mem->Prop)(s:av)(M:Mem):ck P .skip Q s M=Q .normal s M:=rfl
theorem aem(P:Program)(Q:Exit->av->Mem->Prop)(s:av)(M:Mem):ck P .label Q s M=Q .normal s M:=rfl
theorem aeo(P:Program)(Q:Exit->av->Mem->Prop)(s:av)(M:Mem):ck P .ret Q s M=Q .ret s M:=rfl
theorem aek(P:Program)(id:Nat)(Q:Exit->av->Mem->Prop)(s:av)(M:Mem):ck P (.exit id) Q s M=Q (.exit id) s M:=rfl
theorem ael(P:Program)(l:Nat)(Q:Exit->av->Mem->Prop)(s:av)(M:Mem):ck P (.goto l) Q s M=Q (.goto l) s M:=rfl
theorem aeg(P:Program)(id:Nat)(a:bu)(Q:Exit->av->Mem->Prop)(s:av)(M:Mem):ck P (.block id a) Q s M=ck P a (m0 id Q) s M:=rfl
def aeh{P:Program}{c:aA}{a b:bu}{Q:Exit->av->Mem->Prop}{s:av}{M:Mem}{t:Bool}(h:aw s c=.bool t):ck P (.cond c a b) Q s M=ir t (ck P a Q s M) (ck P b Q s M):=by simp only[ck,h]
def uW(v:V)(A B:Prop):Prop:=
 match v with
 |.bool t=>ir t A B
 |_=>False
theorem aej(P:Program)(t:Nat)(a b:bu)(Q:Exit->av->Mem->Prop)(s:av)(M:Mem):ck P (.cond (.tmp t) a b) Q s M=uW (aE s t) (ck P a Q s M) (ck P b Q s M):=by simp only[ck,aw,uW]<;>cases aE s t<;>rfl
theorem acl(next:(Exit->av->Mem->Prop)->av->Mem->Prop)(Q:Exit->av->Mem->Prop)(s:av)(M:Mem):pf next Q .normal s M=next Q s M:=rfl
theorem acm(next:(Exit->av->Mem->Prop)->av->Mem->Prop)(Q:Exit->av->Mem->Prop)(s:av)(M:Mem):pf next Q .ret s M=Q .ret s M:=rfl
theorem acj(next:(Exit->av->Mem->Prop)->av->Mem->Prop)(Q:Exit->av->Mem->Prop)(id:Nat)(s:av)(M:Mem):pf next Q (.exit id) s M=Q (.exit id) s M:=rfl
theorem ack(next:(Exit->av->Mem->Prop)->av->Mem->Prop)(Q:Exit->av->Mem->Prop)(id:Nat)(s:av)(M:Mem):pf next Q (.goto id) s M=Q (.goto id) s M:=rfl
theorem QW(id:Nat)(Q:Exit->av->Mem->Prop)(s:av)(M:Mem):m0 id Q .normal s M=Q .normal s M:=rfl
theorem QX(id:Nat)(Q:Exit->av->Mem->Prop)(s:av)(M:Mem):m0 id Q .ret s M=Q .ret s M:=rfl
theorem QV(id l:Nat)(Q:Exit->av->Mem->Prop)(s:av)(M:Mem):m0 id Q (.goto l) s M=Q (.goto l) s M:=rfl
theorem QU(id a:Nat)(Q:Exit->av->Mem->Prop)(s:av)(M:Mem):m0 id Q (.exit a) s M=bif a==id then Q .normal s M else Q (.exit a) s M:=rfl
theorem abT(bt:Nat->List V->Mem->Prop)(n len:Nat)(a:List Nat)(Q:Exit->av->Mem->Prop)(s:av)(M:Mem):lf bt n len a Q .ret s M=Q .ret s M:=rfl
theorem abR(bt:Nat->List V->Mem->Prop)(n len:Nat)(a:List Nat)(Q:Exit->av->Mem->Prop)(id:Nat)(s:av)(M:Mem):lf bt n len a Q (.exit id) s M=Q (.exit id) s M:=rfl
theorem abS(bt:Nat->List V->Mem->Prop)(n len:Nat)(a:List Nat)(Q:Exit->av->Mem->Prop)(id:Nat)(s:av)(M:Mem):lf bt n len a Q (.goto id) s M=Q (.goto id) s M:=rfl
def sJ{bt:Nat->List V->Mem->Prop}{n len:Nat}{a:List Nat}{Q:Exit->av->Mem->Prop}{s:av}{M:Mem}(m:Nat)(h:m<n)(b:bt m (cC s a) M):lf bt n len a Q .normal s M:=.inl ⟨m,h,b⟩
def x0{bt:Nat->List V->Mem->Prop}{n len:Nat}{a:List Nat}{Q:Exit->av->Mem->Prop}{s:av}{M:Mem}(m:Nat)(h:m<n)(c:gu len (cC s a) M=U)(b:bt m (cC s a) (M.take len)):lf bt n len a Q .normal s M:=.inr ⟨c,m,h,b⟩
def jz{P:Program}{b:List Nat}{a:bu}{Q:Exit->av->Mem->Prop}{s:av}{M:Mem}(bt:Nat->List V->Mem->Prop)(n:Nat)(e:bt n (cC s b) M)
 (h:∀n d c,bt n d c->ck P a (lf bt n M.length b Q) (jB b d) c):ck P (.loop b a) Q s M:=⟨bt,n,e,h⟩
theorem Tp(a:List jF)(R:Option V->Mem->Prop)(s:av)(M:Mem):iT a R .normal s M=R (lQ s M a) M:=rfl
theorem Tq(a:List jF)(R:Option V->Mem->Prop)(s:av)(M:Mem):iT a R .ret s M=R (lQ s M a) M:=rfl
theorem Kh(bf:Nat)(R:V->Mem->Prop)(v:V)(M:Mem):sF bf R (I v) M=hC (cY M bf 20 v) λa=>(a.under bf&&decide (bf<=M.length)&&b4 bf (M.take bf))=U/\R a (M.take bf):=rfl
theorem Yb(R:V->Mem->Prop)(v:V)(M:Mem):k1 R (I v) M=R v M:=rfl
theorem kH(n:Int)(b:-9223372036854775808<=n)(c:n<=9223372036854775807):IntKind.i64.wrap n=n:=by
 have e:(2:Int)^IntKind.i64.bits=18446744073709551616:=by decide
 have a:(2:Int)^(IntKind.i64.bits -1)=9223372036854775808:=by decide
 unfold IntKind.wrap;simp only[e,a,show IntKind.i64.signed=U from rfl,Bool.true_and,cZ];split<;>omega
def MC(n:Int)(a:0<=n)(b:n<=18446744073709551615):IntKind.u64.wrap n=n:=by
 have e:(2:Int)^IntKind.u64.bits=18446744073709551616:=by decide
 unfold IntKind.wrap;simp only[e,show IntKind.u64.signed=ad from rfl,Bool.false_and];simp only[gX,if_false];omega
theorem toNat_sub1(i:Nat):((i:Int) -1).toNat=i -1:=J
theorem toNat_add1(i:Nat):((i:Int)+1).toNat=i+1:=J
theorem toNat_lit0:(0:Int).toNat=0:=rfl
theorem Qx(k:IntKind)(e:hB)(a b:Int):cT .add e (.int k a) (.int k b)=I (.int k (k.wrap (a+b))):=by simp[cT,jK]
theorem QR(k:IntKind)(e:hB)(a b:Int):cT .sub e (.int k a) (.int k b)=I (.int k (k.wrap (a -b))):=by simp[cT,jK]
theorem QK(k:IntKind)(e:hB)(a b:Int):cT .mul e (.int k a) (.int k b)=I (.int k (k.wrap (a*b))):=by simp[cT,jK]
def wH(k:IntKind)(e:hB)(a b:Int)(h:b≠0):cT .quo e (.int k a) (.int k b)=I (.int k (k.wrap (a.tdiv b))):=by simp[cT,jK,h]
theorem QE(k:IntKind)(e:hB)(a b:Int):cT .eql e (.int k a) (.int k b)=I (.bool (decide (a=b))):=by simp[cT,jK]
theorem QL(k:IntKind)(e:hB)(a b:Int):cT .neq e (.int k a) (.int k b)=I (.bool (!decide (a=b))):=by simp[cT,jK]
theorem QJ(k:IntKind)(e:hB)(a b:Int):cT .lss e (.int k a) (.int k b)=I (.bool (decide (a<b))):=by simp[cT,jK]
theorem QI(k:IntKind)(e:hB)(a b:Int):cT .leq e (.int k a) (.int k b)=I (.bool (decide (a<=b))):=by simp[cT,jK]
theorem QG(k:IntKind)(e:hB)(a b:Int):cT .gtr e (.int k a) (.int k b)=I (.bool (decide (b<a))):=by simp[cT,jK]
theorem QF(k:IntKind)(e:hB)(a b:Int):cT .geq e (.int k a) (.int k b)=I (.bool (decide (b<=a))):=by simp[cT,jK]
def wz(k:IntKind)(x y:Int):Int:=k.wrap ((fF k.bits x&&&fF k.bits y).toNat:Int)
def lN(k:IntKind)(x y:Int):Int:=k.wrap ((fF k.bits x|||fF k.bits y).toNat:Int)
def yU(k:IntKind)(x y:Int):Int:=k.wrap ((fF k.bits x&&&~~~fF k.bits y).toNat:Int)
theorem QA(k:IntKind)(e:hB)(a b:Int):cT .and e (.int k a) (.int k b)=I (.int k (wz k a b)):=by simp[cT,jK,oE,wz]
theorem QN(k:IntKind)(e:hB)(a b:Int):cT .or e (.int k a) (.int k b)=I (.int k (lN k a b)):=by simp[cT,jK,oE,lN]
theorem QB(k:IntKind)(e:hB)(a b:Int):cT .andNot e (.int k a) (.int k b)=I (.int k (yU k a b)):=by simp[cT,jK,oE,yU]
theorem QO(e:hB)(a b:List UInt8):cT .eql e (.str a) (.str b)=I (.bool (decide (a=b))):=rfl
theorem QP(e:hB)(a b:List UInt8):cT .neq e (.str a) (.str b)=I (.bool (!decide (a=b))):=rfl
theorem QC(a b:Bool):cT .eql .bool (.bool a) (.bool b)=I (.bool (decide (a=b))):=rfl
theorem QD(a b:Bool):cT .neq .bool (.bool a) (.bool b)=I (.bool (!decide (a=b))):=rfl
theorem adE(b:Bool):rq .not (.bool b)=I (.bool (!b)):=rfl
theorem adD(k:IntKind)(n:Int):rq .neg (.int k n)=I (.int k (k.wrap (0 -n))):=rfl
theorem aax(a b:V):q8 (.bool U) a b=I a:=rfl
theorem aav(a b:V):q8 (.bool ad) a b=I b:=rfl
theorem XY{b:Nat}{a:List (List V)}{c:cg}{k:IntKind}{i:Int}{M:Mem}(h:0<=i):d8 b (.slice a c) (.int k i) M=(match a[i.toNat]? with|some r=>bif r.length==b then I (.eD r) else ag|none=>ag):=by simp only[d8,h,decide_true,bi]<;>rfl
theorem IX{a id ver start len:Nat}{k:IntKind}{i:Int}{M:Mem}(h:0<=i):d8 a (.an id ver start len) (.int k i) M=(match M[id]? with
 |some (.aj z b v _)=>bif z==a&&v==ver&&decide (i.toNat<len)&&decide (start+len<=b.length) then I (.df id ver (start+i.toNat) 0) else ag
 |some (.b7 cells v)=>bif a==1&&v==ver&&decide (i.toNat<len)&&decide (start+len<=cells.length) then I (.df id ver (start+i.toNat) 0) else ag
 |_=>ag):=by
 simp only[d8,h,decide_true,bi]<;>rfl
theorem XT{len a:Nat}{x:V}{k:IntKind}{i:Int}(h:0<=i)(b:i<len):mo len a x (.int k i)=iF (i.toNat*a) x:=by simp[mo,h,b]
theorem XZ{s:List UInt8}{k:IntKind}{i:Int}(h:0<=i):qN (.str s) (.int k i)=(s[i.toNat]?).map λb=>.int .u8 b.toNat:=by simp only[qN,h,decide_true,bi];cases s[i.toNat]? <;>rfl
theorem ZJ(off:Nat)(cells:List V):iF off (.cq cells)=bif decide (off<=cells.length) then I (.eD (cells.drop off)) else ag:=rfl
theorem YT(n:Nat)(a:Bool)(cells:List V)(M:Mem):dZ n a (.cq cells) M=g6 n a cells 0:=rfl
theorem ZL(off:Nat)(cells:List V):iF off (.eD cells)=bif decide (off<=cells.length) then I (.eD (cells.drop off)) else ag:=rfl
theorem ZK(off id o:Nat):iF off (.ptr id o)=I (.ptr id (o+off)):=rfl
theorem ZI(off id v row o:Nat):iF off (.df id v row o)=I (.df id v row (o+off)):=rfl
theorem YV(n:Nat)(a:Bool)(cells:List V)(M:Mem):dZ n a (.eD cells) M=g6 n a cells 0:=rfl
theorem YU(n:Nat)(a:Bool)(id off:Nat)(M:Mem):dZ n a (.ptr id off) M=(match M[id]? with|some (.box cells)=>g6 n a cells off|_=>ag):=rfl
theorem Jf(n:Nat)(a:Bool)(id ver row off:Nat)(M:Mem):dZ n a (.df id ver row off) M=(match M[id]? with
 |some (.aj _ b v _)=>
  bif v==ver then
   match b[row]? with
   |some r=>g6 n a r off
   |none=>ag
  else ag
 |some (.b7 cells v)=>bif v==ver then uv n a off cells row else ag
 |_=>ag):=rfl
theorem YP(n:Nat)(cells:List V)(off:Nat):g6 n ad cells off=cells[off]? :=rfl
theorem YO(n:Nat)(cells:List V)(off:Nat):g6 n U cells off=bif decide (off+n<=cells.length) then I (.agg ((cells.drop off).take n)) else ag:=rfl
theorem YE(a:List (List V))(c:cg)(M:Mem):eY (.slice a c) M=I (.int .i64 a.length):=rfl
theorem YD(id ver start len:Nat)(M:Mem):eY (.an id ver start len) M=(match M[id]? with
 |some (.aj _ _ v _)=>bif v==ver then I (.int .i64 len) else ag
 |some (.b7 _ v)=>bif v==ver then I (.int .i64 len) else ag
 |_=>ag):=rfl
theorem Yy(s:List UInt8):sp (.str s)=I (.int .i64 s.length):=rfl
theorem TQ(a:List V)(i:Nat):sc (.tuple a) i=a[i]? :=rfl
theorem Ef(k a:IntKind)(n:Int):qA k (.int a n)=I (.int k (k.wrap n)):=rfl
theorem Ua(off n:Nat)(a:Bool)(cells:List V):se off n a (.agg cells)=g6 n a cells off:=rfl
end Go.ao
namespace Go.ao
open Go.RowKit (Below)
def dB(w:World)(Γ:Env)(s:av)(a:Array Value):Prop:=∀t,a_ w Γ (aE s t) (a.getD t Go.undef)
def dB.ext{w b:World}{Γ c:Env}(d:Ext w Γ b c){s:av}{a:Array Value}(h:dB w Γ s a):dB b c s a:=λt=>(h t).ext d
def D6{w:World}{Γ:Env}{v:Value}{x:V}(h:wS v=I x):a_ w Γ x v/\x.ia=U:=by
 unfold wS at h;split at h<;>simp only[aC,reduceCtorEq] at h
 . subst h;exact⟨.bool _,rfl⟩
 . subst h;exact⟨.int _ _,rfl⟩
 . subst h;exact⟨by simpa using a_.str (w:=w) (Γ:=Γ) _,rfl⟩
 . subst h;exact⟨.db,rfl⟩
 . subst h;exact⟨.hf _ (.inl rfl),rfl⟩
 . subst h;exact⟨.hY,rfl⟩
 . subst h;exact⟨.ff,rfl⟩
theorem wV{w:World}{Γ:Env}:∀{c:List Value}{a:List V},r5 c=I a->c.length=a.length/\∀(j:Nat)(x:V),a[j]? =I x->a_ w Γ x (c.toArray.getD j Go.undef)/\x.ia=U
 |[],a,h=>by simp only[r5,aC] at h;subst h;exact⟨rfl,λj x i=>by simp at i⟩
 |v::c,a,h=>by
  simp only[r5] at h;split at h<;>simp only[aC,reduceCtorEq] at h;rename_i x k d e;subst h;obtain⟨f,g⟩:=wV e;refine⟨by simp[f],λj y b=>?_⟩;cases j with
  |zero=>simp only[hg,aC] at b;subst b;simpa using D6 d
  |succ j=>simp only[List.getElem?_cons_succ] at b;have:=g j y b;simpa[gL] using this
def SP{w:World}{Γ:Env}{v:Value}{x:V}(h:zE v=I x):a_ w Γ x v:=by
 unfold zE at h;split at h
 . rename_i b;cases a:r5 b.toList with
   |none=>simp[a] at h
   |some f=>simp only[a,jE,aC] at h;subst h;obtain⟨c,d⟩:=wV (w:=w) (Γ:=Γ) a;exact .agg f b (by simpa using c) (λj x e=>by simpa using(d j x e).1)
 . exact(D6 h).1
theorem du{w:World}{Γ:Env}{s:av}{a:Act}(ae:dB w Γ s a.tmps){x:Operand}{y:aA}(h:bJ x=I y):a_ w Γ (aw s y) (a.eval x):=by
 cases x with
 |tmp t=>simp only[bJ,aC] at h;subst h;exact ae t
 |const v=>simp only[bJ,cL] at h;obtain⟨z,c,rfl⟩:=h;exact SP c
 |func f=>simp only[bJ,aC] at h;subst h;exact .cI f [] #[] rfl (λj x b=>by simp at b) (λj x b=>by simp at b)
 |global g=>simp[bJ] at h
theorem xI{w:World}{Γ:Env}{s:av}{a:Act}(ae:dB w Γ s a.tmps):∀{d:List Operand}{c:List aA},o3 d=I c->dz w Γ (d5 s c) (d.map a.eval).toArray
 |[],c,h=>by simp only[o3,aC] at h;subst h;exact⟨rfl,λj x k=>by simp[d5] at k⟩
 |x::d,c,h=>by
  simp only[o3] at h;split at h<;>simp only[aC,reduceCtorEq] at h;rename_i y l f g;subst h;obtain⟨e,i⟩:=xI ae g;refine⟨by simp[d5] at e⊢;exact e,λj z b=>?_⟩;cases j with
  |zero=>simp only[d5,hg,aC] at b;subst b;simpa using du ae f
  |succ j=>simp only[d5,List.getElem?_cons_succ] at b;have:=i j z b;simpa[gL] using this
def gj(P:Program)(w:World)(Γ:Env)(a:Act)(o:Oper)(v:V):Prop:=
 ∃c,a_ w Γ v c/\∀b,Below w.heap.size w b->(execOp a.eval o).run P b=.ok (.value c) b
section
variable{P:Program}{w:World}{Γ:Env}{M:Mem}{s:av}{a:Act}{o:Oper}{v:V}
def dC{t:TypeId}{d:TypeDesc}(h:P.underlying t=I d)(a:World):(underlying t).run P a=.ok d a:=by simp[underlying,h]
def fP{t:TypeId}{n:Nat}(h:d3 P t=I n)(a:World):(sizeOf t).run P a=.ok n a:=by unfold d3 at h;split at h<;>simp only[aC,reduceCtorEq] at h;rename_i i b;subst h;simp[sizeOf,typeInfo,b]
def qP{t:TypeId}{b:Bool}(h:iw P t=I b)(c:World):(isAgg t).run P c=.ok b c:=by
 unfold iw at h;split at h<;>simp only[aC,reduceCtorEq] at h<;>subst h
 . rename_i a;simp[isAgg,underlying,a]
 . rename_i a;simp[isAgg,underlying,a]
 . rename_i d e f a;simp only[isAgg,underlying,Sem.run_bind,run_program,Result.andThen_ok,a,Sem.run_pure]
def AR(ae:dB w Γ s a.tmps){x:Operand}{y:aA}(b:o.op=.move x∨o.op=.assign x)(c:bJ x=I y):gj P w Γ a o (aw s y):=by refine⟨a.eval x,du ae c,λd _=>?_⟩;rcases b with b|b<;>simp[execOp,b]
theorem nl{x:V}{b:Bool}{a:Value}(h:a_ w Γ x a)(c:x=.bool b):a=.bool b:=by subst c;cases h;rfl
theorem ih{k:IntKind}{n:Int}{a:Value}(h:a_ w Γ (.int k n) a):a=.int k n:=by cases h;rfl
theorem n6{l:List UInt8}{a:Value}(h:a_ w Γ (.str l) a):a=.string ⟨l.toArray⟩:=by cases h;rfl
theorem aaw(ae:dB w Γ s a.tmps){c x y:Operand}{b f g:aA}(d:o.op=.pick c x y)(i:bJ c=I b)(k:bJ x=I f)(l:bJ y=I g)
 (h:q8 (aw s b) (aw s f) (aw s g)=I v):gj P w Γ a o v:=by
 unfold q8 at h;split at h<;>simp only[aC,reduceCtorEq] at h;rename_i t j;have e:=nl (du ae i) j;subst h;cases t with
 |true=>exact⟨a.eval x,du ae k,λm _=>by simp[execOp,d,e,asBool]⟩
 |false=>exact⟨a.eval y,du ae l,λm _=>by simp[execOp,d,e,asBool]⟩
def rR(w:World)(Γ:Env)(b o:Nat)(cells:List V):Prop:=∀(j:Nat)(x:V),cells[j]? =I x->∃c,w.cell? ⟨b,o+j,ag⟩=I c/\a_ w Γ x c
def Sf{b j:Nat}{c:Value}(h:w.cell? ⟨b,j,ag⟩=I c):b<w.heap.size:=World.block_lt_of_cell? (a:=⟨b,j,ag⟩) w h
def zs{a:World}{b j:Nat}{c:Value}(h:w.cell? ⟨b,j,ag⟩=I c)(d:Below w.heap.size w a):a.cell? ⟨b,j,ag⟩=I c:=
 (pB (d.block b (Sf h))).trans h
theorem a_.row(t:Good w Γ M){x:V}{e:Value}(h:a_ w Γ x e):match x with
 |.eD cells=>∃b o,e=.pointer (I ⟨b,o,ag⟩)/\rR w Γ b o cells
 |.cq cells=>∃b o,e=.pointer (I ⟨b,o,ag⟩)/\rR w Γ b o cells
 |.ptr id off=>∃b,e=.pointer (I ⟨b,off,ag⟩)/\∀cells,M[id]? =I (.box cells)->rR w Γ b 0 cells
 |.df id ver row off=>∀u f q r,M[id]? =I (.aj u f ver q)->f[row]? =I r->∃b o,e=.pointer (I ⟨b,o+off,ag⟩)/\rR w Γ b o r
 |_=>True:=by
 cases h with
 |eD cells b o g ae n F d=>refine⟨b,o,rfl,λj x a=>⟨g j,n j (az.1 a).1,d j x a⟩⟩
 |cq cells b o g Q ae n F d=>refine⟨b,o,rfl,λj x a=>⟨g j,congrArg Prod.fst (n j (az.1 a).1),d j x a⟩⟩
 |ptr id off l p O G=>refine⟨l.b,rfl,λcells m j x a=>?_⟩;obtain⟨c,s,i,_⟩:=t.Q4 p m a;exact⟨c,by simpa using s,i⟩
 |df id ver row off l p G v h=>
  intro u f q r m d;obtain⟨s,H,i,K,L,z,A,N,k⟩:=t.dI id l _ p m;have R:row<f.length:=(az.1 d).1;have C:l.live=U:=by
   cases E:l.live with
   |true=>rfl
   |false=>have:=z E;omega
  obtain⟨_,c,T,k,B,y⟩:=k C;refine⟨l.b,row*l.sz,by rw[h i],λj x a=>?_⟩;have P:j<l.sz:=by rw[<-A row r d];exact(az.1 a).1
  have D:row*l.sz+j<c.size:=by rw[B];have:(row+1)*l.sz<=l.cap*l.sz:=hj _ J;rw[gZ] at this;omega
  exact⟨c.getD (row*l.sz+j) Go.undef,by rw[iy k];exact h9 D,y row r j x d a⟩
 |_=>trivial
theorem a_.adX(o:Good w Γ M){id ver row off:Nat}{e:Value}(h:a_ w Γ (.df id ver row off) e){cells:List V}(n:M[id]? =I (.b7 cells ver)){x:V}(f:cells[row]? =I x):
 ∃b,e=.pointer (I ⟨b,row+off,ag⟩)/\rR w Γ b row [x]:=by
 cases h with
 |df _ _ _ _ l r C p u=>
  obtain⟨v,g,k,z,m,a⟩:=o.dI id l _ r n;have B:row<cells.length:=(az.1 f).1;have s:l.live=U:=by
   cases t:l.live with
   |true=>rfl
   |false=>have:=m t;omega
  obtain⟨_,c,T,a,A,i⟩:=a s;refine⟨l.b,by rw[u k,g,jV],λj y d=>?_⟩;have q:j=0:=by have:=(az.1 d).1;simp at this;omega
  subst q;simp only[hg,aC] at d;subst d;exact⟨c.getD row Go.undef,by rw[iy a];exact h9 J,i row x f⟩
def adW{n off:Nat}{a:Bool}{cells:List V}{row:Nat}(h:uv n a off cells row=I v):n=1/\a=ad/\off=0/\cells[row]? =I v:=by
 unfold uv at h;split at h
 . exact⟨rfl,rfl,rfl,h⟩
 . cases h
theorem Jc{b o n off:Nat}{f:Bool}{cells:List V}(h:rR w Γ b o cells)(d:g6 n f cells off=I v):
 match f with
 |true=>∃(l:List V)(m:Nat->Value),v=.agg l/\l.length=n/\(∀j,j<n->w.cell? ⟨b,o+off+j,ag⟩=I (m j))/\∀(j:Nat)(x:V),l[j]? =I x->a_ w Γ x (m j)
 |false=>∃c,w.cell? ⟨b,o+off,ag⟩=I c/\a_ w Γ v c:=by
 unfold g6 at d;cases f with
 |true=>
  simp only at d;cases k:decide (off+n<=cells.length) with
  |false=>simp[k] at d
  |true=>
   simp only[k,bi,aC] at d;have p:off+n<=cells.length:=by simpa using k
   have key:∀j,j<n->∃c,w.cell? ⟨b,o+off+j,ag⟩=I c/\∀x,cells[off+j]? =I x->a_ w Γ x c:=λj a=>by obtain⟨c,g,i⟩:=h (off+j) (cells[off+j]'J) (by simp);refine⟨c,by rw[jg];exact g,λx e=>?_⟩;rw[cG J] at e;simp only[aC] at e;exact e▸i
   refine⟨(cells.drop off).take n,λj=>if a:j<n then(key j a).choose else Go.undef,d.symm,by simp;omega,λj a=>?_,λj x e=>?_⟩
   . simp only[a,dite_true];exact(key j a).choose_spec.1
   . have a:j<n:=by
      have:=(az.1 e).1;simp at this;omega
     simp only[a,dite_true];refine(key j a).choose_spec.2 x ?_;rw[fT a,h2] at e;exact e
 |false=>simp only at d;obtain⟨c,g,i⟩:=h off v d;exact⟨c,g,i⟩
theorem Addr.jI(b o n:Nat):(Addr.mk b o ag).add n=⟨b,o+n,ag⟩:=by
 unfold Addr.add;split
 . subst_vars;rfl
 . rfl
def Jd(l:Good w Γ M){n:Nat}{j:Bool}{x:V}{k:Value}(h:a_ w Γ x k)(a:dZ n j x M=I v):
 ∃b o off cells,k=.pointer (I ⟨b,o+off,ag⟩)/\rR w Γ b o cells/\g6 n j cells off=I v:=by
 have g:=h.row l;unfold dZ at a;split at a
 . rename_i cells;obtain⟨b,o,c,d⟩:=g;exact⟨b,o,0,cells,c,d,a⟩
 . rename_i cells;obtain⟨b,o,c,d⟩:=g;exact⟨b,o,0,cells,c,d,a⟩
 . rename_i id off;split at a
   . rename_i cells f;obtain⟨b,c,d⟩:=g;exact⟨b,0,off,cells,by rw[c,dm],d cells f,a⟩
   . cases a
 . rename_i id ver row off;split at a
   . rename_i z s i m f;cases e:i==ver with
     |false=>simp[e] at a
     |true=>
      simp only[beq_iff_eq] at e;subst e;simp only[beq_self_eq_true,bi] at a;split at a
      . rename_i r p;obtain⟨b,o,c,d⟩:=g z s m r f p;exact⟨b,o,off,r,c,d,a⟩
      . cases a
   . rename_i cells i f;cases e:i==ver with
     |false=>simp[e] at a
     |true=>simp only[beq_iff_eq] at e;subst e;simp only[beq_self_eq_true,bi] at a;obtain⟨rfl,rfl,rfl,q⟩:=adW a;obtain⟨b,c,d⟩:=h.adX l f q;exact⟨b,row,0,[v],c,d,rfl⟩
   . cases a
 . cases a
theorem Jg(A:Good w Γ M)(ae:dB w Γ s a.tmps){t:TypeId}{x:Operand}{n:Nat}{d:Bool}{y:aA}(r:o.op=.load t x)(C:d3 P t=I n)(l:iw P t=I d)(F:bJ x=I y)
 (h:dZ n d (aw s y) M=I v):gj P w Γ a o v:=by
 obtain⟨b,off,G,cells,m,D,B⟩:=Jd A (du ae F) h;have p:=Jc D B;cases d with
 |true=>
  obtain⟨H,k,rfl,q,f,i⟩:=p;refine⟨.agg ((b8 n).map k).toArray,.agg H _ (by simp[q]) (λj x u=>?_),λz e=>?_⟩
  . have g:j<n:=by rw[<-q];exact(az.1 u).1
    have:=i j x u;simpa[gL,g] using this
  . have E:=run_loadCells (P:=P) z ⟨b,off+G,ag⟩ n k (λj g=>by rw[Addr.jI];exact zs (f j g) e);simp[execOp,r,Instr.loadAt,Instr.sureAddr,m,loadVar,qP l,fP C,E]
 |false=>obtain⟨c,f,i⟩:=p;refine⟨c,i,λz e=>?_⟩;simp[execOp,r,Instr.loadAt,Instr.sureAddr,m,loadVar,qP l,zs f e]
def JL{x:V}{r:Value}(h:a_ w Γ x r){off:Nat}(a:iF off x=I v):
 ∃p,r=.pointer (I p)/\a_ w Γ v (.pointer (I (p.add off))):=by
 unfold iF at a;split at a
 . rename_i cells;cases d:decide (off<=cells.length) with
   |false=>simp[d] at a
   |true=>
    simp only[d,bi,aC] at a;have t:off<=cells.length:=by simpa using d
    subst a;cases h with
    |eD _ b o g ae i m n=>
     refine⟨_,rfl,?_⟩;rw[Addr.jI];refine .eD _ b (o+off) (λj=>g (off+j)) (λj f=>?_) (λj f=>?_) (λj x c=>?_) (λj x c=>?_)
     . rw[jg];exact ae _ (by simp at f;omega)
     . rw[jg];exact i _ (by simp at f;omega)
     . rw[h2] at c;exact m _ _ c
     . rw[h2] at c;exact n _ _ c
 . rename_i cells;cases d:decide (off<=cells.length) with
   |false=>simp[d] at a
   |true=>
    simp only[d,bi,aC] at a;have t:off<=cells.length:=by simpa using d
    subst a;cases h with
    |cq _ b o g u ae i m n=>
     refine⟨_,rfl,?_⟩;rw[Addr.jI];refine .eD _ b (o+off) (λj=>g (off+j)) (λj f=>?_) (λj f=>?_) (λj x c=>?_) (λj x c=>?_)
     . rw[jg];exact ae _ (by simp at f;omega)
     . rw[jg];exact congrArg Prod.fst (i _ (by simp at f;omega))
     . rw[h2] at c;exact m _ _ c
     . rw[h2] at c;exact n _ _ c
 . simp only[aC] at a;subst a;cases h with
   |ptr id o l k s q=>exact⟨_,rfl,by rw[Addr.jI];exact .ptr _ _ l k s q⟩
 . simp only[aC] at a;subst a;cases h with
   |df id ver row o l k q p h=>exact⟨_,rfl,.df _ _ _ _ l k q _ (λe=>by rw[h e,Addr.jI,jg])⟩
 . cases a
def T_(ae:dB w Γ s a.tmps){t:TypeId}{x:Operand}{f:Nat}{b:Array Field}{g:Field}{n:Nat}{y:aA}(j:o.op=.fieldAddr t x f)
 (l:P.underlying t=I (.struct b))(d:b[f]? =I g)(e:d3 P g.type=I n)(i:n≠0)(m:bJ x=I y)(h:iF g.offset (aw s y)=I v):gj P w Γ a o v:=by
 obtain⟨p,c,k⟩:=JL (du ae m) h;refine⟨_,k,λq _=>?_⟩;simp[execOp,j,Instr.fieldAt,dC l,d,Instr.sureAddr,c,fieldPlace,fP e,i]
def XU(ae:dB w Γ s a.tmps){t e:TypeId}{x i:Operand}{len n:Nat}{y j:aA}(l:o.op=.indexAddr t x i)
 (r:P.underlying t=I (.array len e))(g:d3 P e=I n)(u:bJ x=I y)(f:bJ i=I j)(h:mo len n (aw s y) (aw s j)=I v):gj P w Γ a o v:=by
 unfold mo at h;split at h
 . rename_i k q al;cases b:(decide (0<=q)&&decide (q<(len:Int))) with
   |false=>simp[b] at h
   |true=>simp only[b,bi] at h;obtain⟨p,d,m⟩:=JL (du ae u) h;have c:=du ae f;rw[al] at c;have c:=ih c;simp only[bL,cZ] at b;refine⟨_,m,λz _=>?_⟩;simp[execOp,l,Instr.indexAt,c,asIntOf,dC r,d,Instr.sureAddr,b,fP g]
 . cases h
end
section
variable{P:Program}{w:World}{Γ:Env}{M:Mem}{s:av}{a:Act}{o:Oper}{v:V}
theorem ef{α:Type}{b:Bool}{x y:α}(h:(bif b then I x else ag)=I y):b=U/\x=y:=by
 cases b with
 |true=>simpa using h
 |false=>simp at h
theorem nQ{α:Type}{b:Bool}{x:Option α}{y:α}(h:(bif b then x else ag)=I y):b=U/\x=I y:=by
 cases b with
 |true=>exact⟨rfl,by simpa using h⟩
 |false=>simp at h
theorem a_.wD(e:Good w Γ M){id:Nat}{l:Loc}(f:Γ.cf[id]? =I l){i ver b:Nat}{a:List (List V)}(d:M[id]? =I (.aj i a ver b))(h:a≠[]):l.live=U:=by
 obtain⟨k,j,m,n,o,c,p,q,r⟩:=e.dI id l _ f d;cases g:l.live with
 |true=>rfl
 |false=>have:=c g;have:a.length=0:=J;exact aJ (lY.1 this) h
def XX(G:Good w Γ M)(ae:dB w Γ s a.tmps){t e:TypeId}{x i:Operand}{n:Nat}{y j:aA}(N:o.op=.indexAddr t x i)
 (S:P.underlying t=I (.slice e))(L:d3 P e=I n)(aH:bJ x=I y)(H:bJ i=I j)(h:d8 n (aw s y) (aw s j) M=I v):gj P w Γ a o v:=by
 have d:=du ae aH;have m:=du ae H;unfold d8 at h;split at h
 . rename_i k q al;rw[al] at m;have m:=ih m;cases f:decide (0<=q) with
   |false=>simp[f] at h
   |true=>
    have O:0<=q:=by simpa using f
    simp only[f,bi] at h;split at h
    . rename_i Y c aD;rw[aD] at d;split at h
      . rename_i r D;obtain⟨Q,rfl⟩:=ef h;have Q:r.length=n:=by simpa using Q
        have u:q.toNat<Y.length:=(az.1 D).1;generalize B:a.eval x=Z at d;cases d with
        |hf=>simp at u
        |jv=>simp at u
        |slice _ _ b of ai cap am ab aN af aF aE ar aB aC=>
         have aG:ai=n:=by rw[<-Q];exact(aF _ _ D).symm
         subst aG;refine⟨.pointer (I ⟨b,of+q.toNat*ai,ag⟩),?_,λaj _=>?_⟩
         . refine .eD r b _ (λj=>am q.toNat j) (λj H=>?_) (λj H=>?_) (λj x d=>aB _ _ _ _ D d) (λj x d=>aC _ _ _ _ D d)
           . rw[jg];exact aE _ _ u J
           . rw[jg];exact ar _ _ u J
         . have:q<(Y.length:Int):=J;simp[execOp,N,Instr.indexAt,m,asIntOf,dC S,B,O,this,fP L,Addr.jI]
      . cases h
    . rename_i id ver start len ay;rw[ay] at d;split at h
      . rename_i z Y aI aJ C;obtain⟨A,rfl⟩:=ef h;simp only[bL,beq_iff_eq,cZ] at A;obtain⟨⟨⟨W,T⟩,u⟩,ah⟩:=A;generalize B:a.eval x=Z at d;cases d with
        |an _ _ _ _ l p V _ R ab=>
         obtain⟨ao,E,F,aK,ap,aa,aL,aM,aq⟩:=G.dI id l _ p C;have K:l.live=U:=a_.wD G p C (by rintro rfl;simp at ah;omega);rcases R (by rw[F,T]) with⟨f,_⟩|⟨_,af,of,ak,rfl,au,av,g⟩
         . rw[K] at f;cases f
         . have g:=g J;subst g;have X:l.sz=n:=by rw[E,W]
           refine⟨.pointer (I ⟨l.b,start*l.sz+q.toNat*n,ag⟩),?_,λaj _=>?_⟩
           . refine .df _ _ _ _ l p V _ (λ_=>?_);rw[X,gZ,g_]
           . have:q<(len:Int):=J;simp[execOp,N,Instr.indexAt,m,asIntOf,dC S,B,O,this,fP L,Addr.jI]
      . rename_i cells aI C;obtain⟨A,rfl⟩:=ef h;simp only[bL,beq_iff_eq,cZ] at A;obtain⟨⟨⟨W,T⟩,u⟩,ah⟩:=A;generalize B:a.eval x=Z at d;cases d with
        |an _ _ _ _ l p V _ R ab=>
         obtain⟨ao,E,F,ap,aa,aq⟩:=G.dI id l _ p C;have K:l.live=U:=by
          cases ax:l.live with
          |true=>rfl
          |false=>have:=aa ax;omega
         rcases R (by rw[F,T]) with⟨f,_⟩|⟨_,af,of,ak,rfl,au,av,g⟩
         . rw[K] at f;cases f
         . have g:=g J;subst g;have X:l.sz=n:=by rw[E,W]
           refine⟨.pointer (I ⟨l.b,start*l.sz+q.toNat*n,ag⟩),?_,λaj _=>?_⟩
           . refine .df _ _ _ _ l p V _ (λ_=>?_);rw[X,gZ,g_]
           . have:q<(len:Int):=J;simp[execOp,N,Instr.indexAt,m,asIntOf,dC S,B,O,this,fP L,Addr.jI]
      . cases h
    . cases h
 . cases h
def X1(ae:dB w Γ s a.tmps){t:TypeId}{x i:Operand}{y j:aA}(r:o.op=.index t x i)
 (A:P.underlying t=I .string)(B:bJ x=I y)(p:bJ i=I j)(h:qN (aw s y) (aw s j)=I v):gj P w Γ a o v:=by
 have d:=du ae B;have c:=du ae p;unfold qN at h;split at h
 . rename_i b k q m al;rw[al] at c;rw[m] at d;have c:=ih c;have d:=n6 d;cases e:decide (0<=q) with
   |false=>simp[e] at h
   |true=>
    have z:0<=q:=by simpa using e
    simp only[e,bi] at h;split at h
    . rename_i u l;simp only[aC] at h;subst h;refine⟨_,.int .u8 _,λC _=>?_⟩;have f:q.toNat<b.length:=(az.1 l).1;have n:(oj b.toArray)[q.toNat]? =I u:=by
       have g:q.toNat<(oj b.toArray).size:=by simpa[ByteArray.size] using f
       rw[getElem?_pos (oj b.toArray) q.toNat g];have:(oj b.toArray)[q.toNat]'g=b[q.toNat]:=by rfl
       rw[this,<-l,cG f]
      simp[execOp,r,Instr.index,c,asIntOf,dC A,d,z,n]
    . cases h
 . cases h
theorem J9{t:TypeId}{n off:Nat}{d:Bool}{g:List V}{a:Array Value}(o:d3 P t=I n)(k:iw P t=I d)(b:dz w Γ g a)(h:g6 n d g off=I v):
 ∃i,a_ w Γ v i/\∀c,(part t a off).run P c=.ok i c:=by
 unfold g6 at h;cases d with
 |true=>
  obtain⟨l,rfl⟩:=ef h;have p:off+n<=g.length:=by simpa using l
  refine⟨.agg (a.extract off (off+n)),.agg _ _ (by simp[b.1];omega) (λj x f=>?_),λc=>by simp[part,qP k,fP o]⟩;have m:j<n:=by have:=(az.1 f).1;simp at this;omega
  rw[fT m,h2] at f;have:=b.2 _ _ f;have e:off+j<a.size:=by rw[b.1];omega
  simpa[gL,e,show off+j<min (off+n) a.size from J,Array.getElem?_extract,show j<min (off+n) a.size -off from J] using this
 |false=>
  have:=b.2 _ _ h;have e:off<a.size:=by rw[b.1];exact(az.1 h).1
  exact⟨_,this,λc=>by simp[part,qP k,e]⟩
def Ub(ae:dB w Γ s a.tmps){t:TypeId}{x:Operand}{f n:Nat}{c:Bool}{d:Array Field}{g:Field}{y:aA}(u:o.op=.field t x f)
 (A:P.underlying t=I (.struct d))(p:d[f]? =I g)(r:d3 P g.type=I n)(k:iw P g.type=I c)(B:bJ x=I y)(h:se g.offset n c (aw s y)=I v):gj P w Γ a o v:=by
 have b:=du ae B;unfold se at h;split at h
 . rename_i cells l;rw[l] at b;generalize m:a.eval x=D at b;cases b with
   |agg _ C q z=>obtain⟨e,i,j⟩:=J9 r k ⟨q,z⟩ h;exact⟨e,i,λE _=>by simp[execOp,u,Instr.field,dC A,p,m,asAgg,j]⟩
 . cases h
def X0(ae:dB w Γ s a.tmps){t e:TypeId}{x i:Operand}{len n:Nat}{f:Bool}{y j:aA}(C:o.op=.index t x i)
 (E:P.underlying t=I (.array len e))(g:d3 P e=I n)(r:iw P e=I f)(F:bJ x=I y)(A:bJ i=I j)(h:tT len n f (aw s y) (aw s j)=I v):gj P w Γ a o v:=by
 have d:=du ae F;have c:=du ae A;unfold tT at h;split at h
 . rename_i cells k q u al;rw[u] at d;rw[al] at c;have c:=ih c;cases b:(decide (0<=q)&&decide (q<(len:Int))) with
   |false=>simp[b] at h
   |true=>
    simp only[b,bi] at h;simp only[bL,cZ] at b;generalize z:a.eval x=H at d;cases d with
    |agg _ G B D=>obtain⟨l,m,p⟩:=J9 g r ⟨B,D⟩ h;exact⟨l,m,λJ _=>by simp[execOp,C,Instr.index,c,asIntOf,dC E,z,b,fP g,p]⟩
 . cases h
def Z5(ae:dB w Γ s a.tmps){x:Operand}{y:aA}(e:o.op=.nilCheck x)(f:bJ x=I y)(h:kx (aw s y)=I v):gj P w Γ a o v:=by have b:=du ae f;obtain⟨c,rfl⟩:=ef h;refine⟨_,b,λi _=>?_⟩;generalize d:a.eval x=g at b;generalize aw s y=z at b c;cases b<;>first|(cases c;done)|(simp only[execOp,e,d];rfl)
theorem ZC(ae:dB w Γ s a.tmps){f:Nat}{first b:Array Operand}{k:List aA}(p:o.op=.makeFunc (.func f) first b)(n:first.isEmpty=U)(q:o3 b.toList=I k):gj P w Γ a o (sy f (d5 s k)):=by
 obtain⟨h,i⟩:=xI ae q;have m:first=#[]:=by simpa using n
 have l:∀g:List V,fL g=U->∀(j:Nat)(x:V),g[j]? =I x->x.ia=U:=by
  intro g;induction g with
  |nil=>intro _ j x d;simp at d
  |cons z u r=>
   intro c j x d;simp only[fL,bL] at c;cases j with
   |zero=>simp at d;exact d▸c.1
   |succ j=>exact r c.2 j x (by simpa using d)
 subst m;refine⟨.func (.func f) #[] (b.map a.eval),?_,λt _=>by simp only[execOp,p,Instr.makeFunc];simp⟩;unfold sy;have e:(b.toList.map a.eval).toArray=b.map a.eval:=Array.ext' (by simp);rw[e] at h i;cases c:fL (d5 s k) with
 |true=>exact .cI _ _ _ h (l _ c) i
 |false=>exact .fn _ _ _ h i
def SR(ae:dB w Γ s a.tmps){d c:TypeId}{x:Operand}{y:aA}{k j:IntKind}(f:o.op=.convert d c x)(g:P.underlying d=I (.int j))(e:P.underlying c=I (.int k))(i:bJ x=I y)
 (h:qA k (aw s y)=I v):gj P w Γ a o v:=by
 have b:=du ae i;unfold qA at h;split at h
 . rename_i q n al;rw[al] at b;have b:=ih b;simp only[aC] at h;subst h;exact⟨_,.int _ _,λl _=>by simp[execOp,f,convert,dC g,dC e,b,Conv.intToInt]⟩
 . cases h
def SQ(ae:dB w Γ s a.tmps){e d:TypeId}{x:Operand}{y:aA}(g:o.op=.convert e d x)(i:P.underlying e=I .string)(f:P.underlying d=I .string)(j:bJ x=I y)
 (h:tC (aw s y)=I v):gj P w Γ a o v:=by
 have c:=du ae j;unfold tC at h;split at h
 . rename_i b al;rw[al] at c;have c:=n6 c;simp only[aC] at h;subst h;exact⟨_,.str _,λk _=>by simp[execOp,g,convert,dC i,dC f,c]⟩
 . cases h
def TP(ae:dB w Γ s a.tmps){x:Operand}{i:Nat}{y:aA}(g:o.op=.extract x i)(l:bJ x=I y)(h:sc (aw s y) i=I v):gj P w Γ a o v:=by
 have b:=du ae l;unfold sc at h;split at h
 . rename_i n k;rw[k] at b;generalize d:a.eval x=m at b;cases b with
   |tuple _ c e j=>
    have f:i<c.size:=by rw[e];exact(az.1 h).1
    exact⟨_,j _ _ h,λp _=>by simp[execOp,g,Instr.extract,d,f]⟩
 . cases h
def adF(ae:dB w Γ s a.tmps){op:UnOp}{t:TypeId}{x:Operand}{y:aA}(d:o.op=.unOp op t x)(f:bJ x=I y)(h:rq op (aw s y)=I v):gj P w Γ a o v:=by
 have c:=du ae f;unfold rq at h;split at h
 . rename_i k n al;rw[al] at c;have c:=ih c;simp only[aC] at h;subst h;exact⟨_,.int _ _,λe _=>by simp[execOp,d,Op.unary,c,Op.intArith]⟩
 . rename_i k n al;rw[al] at c;have c:=ih c;simp only[oE,aC] at h;subst h;exact⟨_,.int _ _,λe _=>by simp[execOp,d,Op.unary,c,Op.intBits]⟩
 . rename_i b al;rw[al] at c;have c:=nl c rfl;simp only[aC] at h;subst h;exact⟨_,.bool _,λe _=>by simp[execOp,d,Op.unary,c]⟩
 . cases h
end
section
variable{P:Program}{w:World}{Γ:Env}{M:Mem}{s:av}{a:Act}{o:Oper}{v:V}
def uC(P:Program)(op:BinOp)(t:TypeId)(a b r:Value):Prop:=
 ∀(c:World)(x y:Operand),(do eqGuard op t x y a b;binOp op t a b:Sem Value).run P c=.ok r c
def rZ{α:Type}[BEq α][LawfulBEq α][DecidableEq α](x y:α):(x==y)=decide (x=y):=by rw[Bool.eq_iff_iff];simp
def pQ(op:BinOp)(t:TypeId)(x y:Operand)(a b:Value)(d:¬(a matches .nilIface))(e:¬(a matches .agg _))(c:World):(eqGuard op t x y a b).run P c=.ok () c:=by cases op<;>cases a<;>first|(exfalso;exact d rfl)|(exfalso;exact e rfl)|(simp[eqGuard];done)|(cases b<;>simp[eqGuard])
def QH{op:BinOp}{t:TypeId}{k c:IntKind}{x y:Int}{e:hB}(h:cT op e (.int k x) (.int c y)=I v):∃r,a_ w Γ v r/\uC P op t (.int k x) (.int c y) r:=by
 have g:∀(b:World)(p q:Operand),(eqGuard op t p q (.int k x) (.int c y)).run P b=.ok () b:=λb p q=>pQ op t p q _ _ (by simp) (by simp) b;by_cases d:k=c
 . subst d;cases op
   case shl=>
    simp only[cT,lT] at h;cases a:decide (y<0) with
    |true=>simp[a] at h
    |false=>
     simp only[a,eE,aC] at h;subst h;refine⟨_,.int _ _,λb p q=>?_⟩;have:¬y<0:=by simpa using a
     simp[g,binOp,Op.shift,this]
   case shr=>
    simp only[cT,lT] at h;cases a:decide (y<0) with
    |true=>simp[a] at h
    |false=>
     simp only[a,eE,aC] at h;subst h;refine⟨_,.int _ _,λb p q=>?_⟩;have:¬y<0:=by simpa using a
     simp[g,binOp,Op.shift,this]
   case quo=>
    simp only[cT,jK,decide_true,bi] at h;cases a:decide (y=0) with
    |true=>simp[a] at h
    |false=>
     simp only[a,eE,aC] at h;subst h;refine⟨_,.int _ _,λb p q=>?_⟩;have:¬y=0:=by simpa using a
     simp[g,binOp,Op.intDiv,this]
   case rem=>
    simp only[cT,jK,decide_true,bi] at h;cases a:decide (y=0) with
    |true=>simp[a] at h
    |false=>
     simp only[a,eE,aC] at h;subst h;refine⟨_,.int _ _,λb p q=>?_⟩;have:¬y=0:=by simpa using a
     simp[g,binOp,Op.intDiv,this]
   case eql=>simp only[cT,jK,decide_true,bi,aC] at h;subst h;exact⟨_,.bool _,λb p q=>by simp[g,binOp,Op.intCmp,rZ]⟩
   case neq=>simp only[cT,jK,decide_true,bi,aC] at h;subst h;exact⟨_,.bool _,λb p q=>by simp[g,binOp,Op.intCmp,bne,rZ]⟩
   all_goals
    simp only[cT,jK,oE,decide_true,bi,aC] at h;subst h;first
     |exact⟨_,.bool _,λb p q=>by simp[g,binOp,Op.intCmp]⟩
     |exact⟨_,.int _ _,λb p q=>by simp[g,binOp,Op.intArith,Op.intBits]⟩
 . cases op
   case shl=>
    simp only[cT,lT] at h;cases a:decide (y<0) with
    |true=>simp[a] at h
    |false=>
     simp only[a,eE,aC] at h;subst h;refine⟨_,.int _ _,λb p q=>?_⟩;have:¬y<0:=by simpa using a
     simp[g,binOp,Op.shift,this]
   case shr=>
    simp only[cT,lT] at h;cases a:decide (y<0) with
    |true=>simp[a] at h
    |false=>
     simp only[a,eE,aC] at h;subst h;refine⟨_,.int _ _,λb p q=>?_⟩;have:¬y<0:=by simpa using a
     simp[g,binOp,Op.shift,this]
   all_goals simp[cT,d] at h
def QQ{op:BinOp}{t:TypeId}{x y:List UInt8}{c:hB}(h:cT op c (.str x) (.str y)=I v):∃r,a_ w Γ v r/\uC P op t (.string ⟨x.toArray⟩) (.string ⟨y.toArray⟩) r:=by
 have g:∀(a:World)(p q:Operand),(eqGuard op t p q (.string ⟨x.toArray⟩) (.string ⟨y.toArray⟩)).run P a=.ok () a:=λa p q=>pQ op t p q _ _ (by simp) (by simp) a;simp only[cT] at h;cases op<;>simp only[Dk,aC,reduceCtorEq] at h
 case add=>
  obtain⟨d,rfl⟩:=ef h;have f:((x.length+y.length:Nat):Int)<=9223372036854775807:=by simpa using d
  refine⟨.string ⟨(x++y).toArray⟩,.str _,λa p q=>?_⟩;have e:(oj x.toArray)++(oj y.toArray)=⟨(x++y).toArray⟩:=by apply ByteArray.ext;simp
  have b:((oj x.toArray).size:Int)+((oj y.toArray).size:Int)<=9223372036854775807:=by simp only[ByteArray.size];simp;omega
  simp[g,binOp,Op.stringOp,e,b]
 all_goals
  subst h;exact⟨_,.bool _,λa p q=>by simp[g,binOp,Op.stringOp,rZ]⟩
theorem r9(t:TypeId)(x y:Value)(a:World):(Op.equal t x y).run P a=(Op.equalIn (9999+1) t x y).run P a:=rfl
def r8{op:BinOp}{t:TypeId}{a c:Value}{b:Bool}(i:op=.eql∨op=.neq)
 (f:∀(d:World)(p q:Operand),(eqGuard op t p q a c).run P d=.ok () d)(e:∀d:World,(Op.equalIn (9999+1) t a c).run P d=.ok b d)
 (g:binOp .eql t a c=(do pure (.bool (<-Op.equal t a c))))(h:binOp .neq t a c=(do pure (.bool (!(<-Op.equal t a c))))):
 uC P op t a c (.bool (if op=.eql then b else !b)):=λd p q=>by
 rcases i with rfl|rfl
 . rw[g];simp[f,r9,e]
 . rw[h];simp[f,r9,e]
def II(op:BinOp)(t:TypeId)(x y:Operand)(c d:Array Value)(b:P.eqGuardType P.depth t=ad)(a:World):(eqGuard op t x y (.agg c) (.agg d)).run P a=.ok () a:=by cases op<;>simp[eqGuard,b]
def As{f:TypeId}{c:ex}(a:jY P f=I c){x y:V}{o p:Value}(e:a_ w Γ x o)(g:a_ w Γ y p){b:Bool}(h:gn c x y=I b)(d:Nat)(j:World):(Op.equalIn (d+1) f o p).run P j=.ok b j:=by
 unfold gn at h;split at h
 . rename_i k m q n;obtain⟨l,rfl⟩:=ef h;have l:k=q:=by simpa using l
   subst l;have e:=ih e;have g:=ih g;subst e g;unfold jY at a;split at a<;>simp only[aC,reduceCtorEq] at a;rename_i i;rw[run_equalIn_int j d f k _ m n i,rZ]
 . rename_i m n;simp only[aC] at h;subst h;have e:=nl e rfl;have g:=nl g rfl;subst e g;unfold jY at a;split at a<;>simp only[aC,reduceCtorEq] at a;rename_i i;rw[run_equalIn_bool' j d f m n i,rZ]
 . rename_i m n;simp only[aC] at h;subst h;have e:=n6 e;have g:=n6 g;subst e g;unfold jY at a;split at a<;>simp only[aC,reduceCtorEq] at a;rename_i i;rw[run_equalIn_string j d f _ _ i];simp[rZ]
 . cases h
def o6{t:TypeId}(d:iw P t=I ad){c:List V}{a:Array Value}(f:dz w Γ c a){n:Nat}{x:V}(g:c[n]? =I x)(b:World):(part t a n).run P b=.ok (a.getD n Go.undef) b:=by
 have e:n<a.size:=by rw[f.1];exact(az.1 g).1
 simp[part,qP d,e]
def r4{c:ex}{g:List ex}{i j:List V}{b:Bool}(h:fk (c::g) i j=I b):
 ∃x e y f a d,i=x::e/\j=y::f/\gn c x y=I a/\fk g e f=I d/\b=(a&&d):=by
 unfold fk at h;split at h
 . rename_i heq;cases heq
 . rename_i m n x e y f heq;cases heq;split at h
   . rename_i a d k l;simp only[aC] at h;exact⟨_,_,_,_,a,d,rfl,rfl,k,l,h.symm⟩
   . cases h
 . cases h
theorem zX(d:Nat){i j:List V}{o p:Array Value}(l:dz w Γ i o)(m:dz w Γ j p)(g:World):∀(c:List Field)(n:Nat)(e:List ex)(b:Bool),pe P n c=I e->fk e (i.drop n) (j.drop n)=I b->
 (Op.eqFields (d+1) o p c).run P g=.ok b g
 |[],n,e,b,a,h=>by simp only[pe,aC] at a;subst a;simp only[fk,aC] at h;subst h;simp[Op.eqFields]
 |f::c,n,e,b,a,h=>by
  simp only[pe] at a;split at a
  . rename_i k K G u F;split at a<;>simp only[aC,reduceCtorEq] at a;rename_i v;simp only[bL,bne_iff_ne,ne_eq,beq_iff_eq] at v;subst a;obtain⟨x,L,y,M,z,A,q,r,D,E,rfl⟩:=r4 h;have s:i[n]? =I x:=by have:=congrArg (·[0]?) q;simpa using this
    have t:j[n]? =I y:=by have:=congrArg (·[0]?) r;simpa using this
    have B:i.drop (n+1)=L:=by have:=congrArg (List.drop 1) q;simpa[Nat.add_comm] using this
    have C:j.drop (n+1)=M:=by have:=congrArg (List.drop 1) r;simpa[Nat.add_comm] using this
    have J:=zX d l m g c (n+1) K A F (by rw[B,C];exact E);have H:=As G (l.2 _ _ s) (m.2 _ _ t) D d g;simp only[Op.eqFields,v,ne_eq,not_false_eq_true,if_true,Sem.run_bind,o6 u l s,o6 u m t,Result.andThen_ok,H,Sem.run_ite,J];cases z<;>simp
  . cases a
def Tx{t:TypeId}{a:Array Field}(i:P.underlying t=I (.struct a))(m:P.stoodInHeld t=ad){g:List ex}(l:pe P 0 a.toList=I g){j k:List V}{d f:Array Value}(n:dz w Γ j d)(o:dz w Γ k f)
 {b:Bool}(h:fk g j k=I b)(c:World):(Op.equalIn (9999+1) t (.agg d) (.agg f)).run P c=.ok b c:=by
 have e:P.fieldsOf t=a:=by simp[Program.fieldsOf,i]
 rw[run_equalIn_struct c 9999 t d f (by rw[e];exact i) m,e];exact zX 9998 n o c a.toList 0 g b l (by simpa using h)
theorem EJ{e:TypeId}{k:ex}(v:jY P e=I k)(g:iw P e=I ad)(d:Nat){c f:List V}{o p:Array Value}(j:dz w Γ c o)(l:dz w Γ f p)(a:World):
 ∀(m n:Nat)(b:Bool),fk (d_ m k) (c.drop n) (f.drop n)=I b->
 ((forIn (List.range' n m) ((ag,()):Option Bool×Unit) λi r=>do
    if !(<-Op.equalIn (d+1) e (<-part e o (i*1)) (<-part e p (i*1))) then pure (ForInStep.done (I ad,()))
    else pure (ForInStep.yield (ag,())):Sem (Option Bool×Unit))).run P a=.ok (if b then(ag,()) else(I ad,())) a
 |0,n,b,h=>by simp only[List.replicate_zero,fk,aC] at h;subst h;simp
 |m+1,n,b,h=>by
  obtain⟨x,H,y,J,z,A,q,s,D,E,rfl⟩:=r4 (by rw[<-List.replicate_succ];exact h);have t:c[n]? =I x:=by have:=congrArg (·[0]?) q;simpa using this
  have u:f[n]? =I y:=by have:=congrArg (·[0]?) s;simpa using this
  have B:c.drop (n+1)=H:=by have:=congrArg (List.drop 1) q;simpa[Nat.add_comm] using this
  have C:f.drop (n+1)=J:=by have:=congrArg (List.drop 1) s;simpa[Nat.add_comm] using this
  have G:=EJ v g d j l a m (n+1) A (by rw[B,C];exact E);have F:=As v (j.2 _ _ t) (l.2 _ _ u) D d a;rw[List.range'_succ,List.forIn_cons];simp only[Sem.run_bind,jV,o6 g j t,o6 g l u,Result.andThen_ok,F,Sem.run_ite];cases z
  . simp
  . simpa using G
def Tw(d:Nat){t e:TypeId}{len:Nat}(o:P.underlying t=I (.array len e)){k:ex}(m:jY P e=I k)(l:iw P e=I ad)(n:d3 P e=I 1){g i:List V}{c f:Array Value}(p:dz w Γ g c)(q:dz w Γ i f)
 {b:Bool}(h:fk (d_ len k) g i=I b)(a:World):(Op.equalIn (d+1+1) t (.agg c) (.agg f)).run P a=.ok b a:=by
 have:=EJ m l d p q a len 0 b (by simpa using h);rw[Op.equalIn];simp only[Sem.run_bind,dC o,Result.andThen_ok,fP n];rw[Std.Legacy.Range.forIn_eq_forIn_range'];have j:[:len].size=len:=by simp[Std.Legacy.Range.size]
 rw[j];show((Sem.run P (forIn (List.range' 0 len) (ag,()) _) a).andThen _)=_;rw[this];cases b<;>simp
def EI{t e:TypeId}{len:Nat}(m:P.underlying t=I (.array len e)){k:ex}(j:jY P e=I k)(i:iw P e=I ad)(l:d3 P e=I 1){f g:List V}{c d:Array Value}(n:dz w Γ f c)(o:dz w Γ g d)
 {b:Bool}(h:fk (d_ len k) f g=I b)(a:World):(Op.equalIn (9999+1) t (.agg c) (.agg d)).run P a=.ok b a:=Tw 9998 m j i l n o h a
theorem AV{r:List (List V)}{c:Value}(d:a_ w Γ (.slice r .nil) c):c=.slice ag 0 0:=by
 cases d with
 |hf=>rfl
 |jv _ a=>exact aJ rfl a
 |slice _ _ b o f cap e a=>exact aJ rfl a
theorem AX{r:List (List V)}{c:cg}{e:Value}(f:a_ w Γ (.slice r c) e)(h:c=.full∨c=.any∨r≠[]):∃p n d,e=.slice (I p) n d:=by
 cases f with
 |hf _ a=>
  rcases h with h|h|h
  . subst h;simp at a
  . subst h;simp at a
  . exact aJ rfl h
 |jv=>exact⟨_,_,_,rfl⟩
 |slice _ _ b o i cap g a=>exact⟨_,_,_,rfl⟩
def Lc{y:V}{f:Value}(a:a_ w Γ y f){b:Bool}(h:hf y=I b):∃p n c,f=.slice p n c/\p.isNone=b:=by
 unfold hf at h;split at h<;>simp only[aC,reduceCtorEq] at h<;>subst h
 . exact⟨_,_,_,AV a,rfl⟩
 . obtain⟨p,n,d,e⟩:=AX a (.inl rfl);exact⟨_,_,_,e,rfl⟩
 . obtain⟨p,n,d,e⟩:=AX a (.inr (.inl rfl));exact⟨_,_,_,e,rfl⟩
 . obtain⟨p,n,d,e⟩:=AX a (.inr (.inr (by simp)));exact⟨_,_,_,e,rfl⟩
def EH{t:TypeId}{x y:V}{j l:Value}(g:a_ w Γ x j)(i:a_ w Γ y l){b:Bool}(h:jL x y (tI P t)=I b){op:BinOp}(r:op=.eql∨op=.neq):
 uC P op t j l (.bool (if op=.eql then b else !b)):=by
 unfold tI at h;split at h
 . rename_i f;simp only[jL] at h;split at h<;>simp only[aC,reduceCtorEq] at h;rename_i m n;subst h;have g:=nl g rfl;have i:=nl i rfl;subst g i;refine r8 r (λa p q=>pQ op t p q _ _ (by simp) (by simp) a) (λa=>?_) rfl rfl;rw[run_equalIn_bool' a 9999 t m n f,rZ]
 . rename_i e f;simp only[jL] at h;have key:∀a:World,(Op.equalIn (9999+1) t j l).run P a=.ok b a:=by
    intro a;split at h<;>simp only[aC,reduceCtorEq] at h<;>subst h<;>cases g<;>cases i<;>(rw[Op.equalIn];simp[dC f])
   refine r8 r (λa p q=>pQ op t p q _ _ ?_ ?_ a) key ?_ ?_;all_goals (split at h<;>simp only[aC,reduceCtorEq] at h<;>cases g<;>cases i<;>first|rfl|simp)
 . rename_i e f;simp only[jL] at h;have G:∃p n c q m d,j=.slice p n c/\l=.slice q m d/\((p=ag/\b=q.isNone)∨(q=ag/\b=p.isNone)):=by
    split at h
    . obtain⟨q,m,d,s,u⟩:=Lc i h;exact⟨ag,0,0,q,m,d,AV g,s,.inl ⟨rfl,u.symm⟩⟩
    . obtain⟨q,m,d,s,u⟩:=Lc g h;exact⟨q,m,d,ag,0,0,s,AV i,.inr ⟨rfl,u.symm⟩⟩
    . cases h
   obtain⟨p,n,c,q,m,d,rfl,rfl,D⟩:=G;refine r8 r (λa p q=>pQ op t p q _ _ (by simp) (by simp) a) (λa=>?_) rfl rfl;rw[Op.equalIn];rcases D with⟨rfl,rfl⟩|⟨rfl,rfl⟩
   . simp[dC f]
   . cases p<;>simp[dC f]
 . rename_i k e f;simp only[jL] at h;have key:∀a:World,(Op.equalIn (9999+1) t j l).run P a=.ok b a:=by
    intro a;split at h<;>simp only[aC,reduceCtorEq] at h<;>subst h<;>cases g<;>cases i<;>(rw[Op.equalIn];simp[dC f])
   refine r8 r (λa p q=>pQ op t p q _ _ ?_ ?_ a) key ?_ ?_;all_goals (split at h<;>simp only[aC,reduceCtorEq] at h<;>cases g<;>cases i<;>first|rfl|simp)
 . rename_i K L M f;simp only[jL] at h;have key:∀a:World,(Op.equalIn (9999+1) t j l).run P a=.ok b a:=by
    intro a;split at h<;>simp only[aC,reduceCtorEq] at h<;>subst h<;>cases g<;>cases i<;>(rw[Op.equalIn];simp[dC f])
   refine r8 r (λa p q=>pQ op t p q _ _ ?_ ?_ a) key ?_ ?_;all_goals (split at h<;>simp only[aC,reduceCtorEq] at h<;>cases g<;>cases i<;>first|rfl|simp)
 . rename_i H f;split at h
   . rename_i J F;split at h
     . rename_i o;simp only[bL,hM] at o;simp only[jL] at h;split at h
       . cases g with
         |agg _ j v A=>
          cases i with
          |agg _ l z B=>exact r8 r (λa p q=>II op t p q _ _ o.2 a) (λa=>Tx f o.1 F ⟨v,A⟩ ⟨z,B⟩ h a) rfl rfl
       . cases h
     . simp[jL] at h
   . simp[jL] at h
 . rename_i n e f;split at h
   . rename_i k E C;split at h
     . rename_i o;simp only[bL,hM,beq_iff_eq] at o;simp only[jL] at h;split at h
       . cases g with
         |agg _ j v A=>
          cases i with
          |agg _ l z B=>exact r8 r (λa p q=>II op t p q _ _ o.2 a) (λa=>EI f E C o.1 ⟨v,A⟩ ⟨z,B⟩ h a) rfl rfl
       . cases h
     . simp[jL] at h
   . simp[jL] at h
 . simp[jL] at h
end
section
variable{P:Program}{w:World}{Γ:Env}{M:Mem}{s:av}{a:Act}{o:Oper}{v:V}
theorem Qw{op:BinOp}{a:hB}{x y:V}(c:∀k n e m,¬(x=.int k n/\y=.int e m))(d:∀l m,¬(x=.str l/\y=.str m)):
 cT op a x y=(match op with|.eql=>(jL x y a).map .bool|.neq=>(jL x y a).map λb=>.bool !b|_=>ag):=by
 unfold cT;split
 . exact aJ ⟨rfl,rfl⟩ (c _ _ _ _)
 . exact aJ ⟨rfl,rfl⟩ (d _ _)
 . cases op<;>rfl
def QM(ae:dB w Γ s a.tmps){op:BinOp}{t E:TypeId}{x y:Operand}{u z:aA}(A:o.op=.binOp op t x y E)(C:bJ x=I u)(D:bJ y=I z)
 (h:cT op (tI P t) (aw s u) (aw s z)=I v):gj P w Γ a o v:=by
 have d:=du ae C;have e:=du ae D
 suffices B:∃r,a_ w Γ v r/\uC P op t (a.eval x) (a.eval y) r by obtain⟨r,f,g⟩:=B;refine⟨r,f,λF _=>?_⟩;have:=g F x y;simp only[execOp,A,Sem.run_bind] at this⊢;rw[this];simp
 generalize a.eval x=G at d;generalize a.eval y=H at e;generalize aw s u=p at*;generalize aw s z=q at*;by_cases f:∃k n i m,p=.int k n/\q=.int i m
 . obtain⟨k,n,i,m,rfl,rfl⟩:=f;have:=ih d;have:=ih e
   subst_vars
   exact QH h
 by_cases g:∃l m,p=.str l/\q=.str m
 . obtain⟨l,m,rfl,rfl⟩:=g;have:=n6 d;have:=n6 e
   subst_vars
   exact QQ h
 rw[Qw (λk n i m j=>f ⟨k,n,i,m,j⟩) (λl m j=>g ⟨l,m,j⟩)] at h;cases op<;>simp only[reduceCtorEq] at h
 . cases c:jL p q (tI P t) with
   |none=>simp[c] at h
   |some b=>simp only[c,jE,aC] at h;subst h;exact⟨_,.bool _,by simpa using EH d e c (.inl rfl)⟩
 . cases c:jL p q (tI P t) with
   |none=>simp[c] at h
   |some b=>simp only[c,jE,aC] at h;subst h;exact⟨_,.bool _,by simpa using EH d e c (.inr rfl)⟩
def JB(ae:dB w Γ s a.tmps){mx:Bool}{x y:Operand}{f g:aA}{r:Array TypeId}(e:o.op=.call ⟨.builtin (if mx then .max else .min),#[x,y],r⟩) (l:bJ x=I f) (p:bJ y=I g)
 (h:oU mx (aw s f) (aw s g)=I v):gj P w Γ a o v:=by
 have b:=du ae l;have c:=du ae p;unfold oU at h;split at h
 . rename_i k m q n i j;rw[i] at b;rw[j] at c;have b:=ih b;have c:=ih c;cases d:decide (k=q) with
   |false=>simp[d] at h
   |true=>
    simp only[d,bi] at h;cases mx with
    |true=>simp only[aC] at h;subst h;exact⟨_,.int _ _,λt _=>by simp[execOp,e,resolve,invoke,builtin,b,c,Builtin.max_,Builtin.max2]⟩
    |false=>simp only[aC] at h;subst h;exact⟨_,.int _ _,λt _=>by simp[execOp,e,resolve,invoke,builtin,b,c,Builtin.min_,Builtin.min2]⟩
 . cases h
def Yx(u:Good w Γ M)(ae:dB w Γ s a.tmps){x:Operand}{y:aA}{t e:TypeId}(D:o.op=.call ⟨.builtin .len,#[x],#[t]⟩) (E:P.underlying t=I (.slice e)) (H:bJ x=I y)
 (h:eY (aw s y) M=I v):gj P w Γ a o v:=by
 have d:=du ae H;have key:∀p n c,a.eval x=.slice p n c->v=.int .i64 n->gj P w Γ a o v:=λp n c b F=>by subst F;exact⟨_,.int _ _,λL _=>by simp[execOp,D,resolve,invoke,builtin,b,Builtin.len_,dC E,goInt]⟩
 unfold eY at h;split at h
 . rename_i J c k;simp only[aC] at h;subst h;rw[k] at d;generalize b:a.eval x=r at d;cases d with
   |hf=>exact key _ _ _ b rfl
   |jv=>exact key _ _ _ b rfl
   |slice=>exact key _ _ _ b rfl
 . rename_i id ver start len k;rw[k] at d;split at h
   . rename_i z J q K i;obtain⟨f,rfl⟩:=ef h;have f:q=ver:=by simpa using f
     generalize b:a.eval x=r at d;cases d with
     |an _ _ _ _ l j G _ m _=>
      obtain⟨C,B,g,_⟩:=u.dI id l _ j i;rcases m (by rw[g,f]) with⟨_,rfl,rfl⟩|⟨_,_,of,A,rfl,_,_,_⟩
      . exact key _ _ _ b rfl
      . exact key _ _ _ b rfl
   . rename_i cells q i;obtain⟨f,rfl⟩:=ef h;have f:q=ver:=by simpa using f
     generalize b:a.eval x=r at d;cases d with
     |an _ _ _ _ l j G _ m _=>
      obtain⟨C,B,g,_⟩:=u.dI id l _ j i;rcases m (by rw[g,f]) with⟨_,rfl,rfl⟩|⟨_,_,of,A,rfl,_,_,_⟩
      . exact key _ _ _ b rfl
      . exact key _ _ _ b rfl
   . cases h
 . cases h
def Yz(ae:dB w Γ s a.tmps){x:Operand}{d:aA}{t:TypeId}(g:o.op=.call ⟨.builtin .len,#[x],#[t]⟩) (i:P.underlying t=I .string) (j:bJ x=I d)
 (h:sp (aw s d)=I v):gj P w Γ a o v:=by
 have c:=du ae j;unfold sp at h;split at h
 . rename_i b f;rw[f] at c;have c:=n6 c;simp only[aC] at h;subst h;have e:(oj b.toArray).size=b.length:=by show b.toArray.size=_;simp
   exact⟨_,.int _ _,λk _=>by simp[execOp,g,resolve,invoke,builtin,c,Builtin.len_,dC i,goInt,e]⟩
 . cases h
def I7{x:Operand}{t e:TypeId}{n:Nat}(d:o.op=.call ⟨.builtin .len,#[x],#[t]⟩)
 (b:P.underlying t=I (.array n e)∨∃c,P.underlying t=I (.pointer c)/\P.underlying c=I (.array n e)):gj P w Γ a o (.int .i64 n):=by
 refine⟨_,.int _ _,λg _=>?_⟩;rcases b with b|⟨c,b,f⟩
 . simp[execOp,d,resolve,invoke,builtin,Builtin.len_,dC b,goInt]
 . simp[execOp,d,resolve,invoke,builtin,Builtin.len_,dC b,dC f,goInt]
def acC{k:IntKind}{i:Int}{y:Nat}(b:0<=i)(c:i.toNat<=y)(SM:BoundsCode)(a:World):(Instr.sliceBound (.int k i) y SM).run P a=.ok i.toNat a:=by have:i<=(y:Int):=J;simp[Instr.sliceBound,asIntOf,b,this]
def za{d n:Nat}{x:Option V}(h:gE d x=I n):(x=ag/\n=d)∨∃k i,x=I (.int k i)/\0<=i/\n=i.toNat:=by
 unfold gE at h;split at h
 . simp only[aC] at h;exact .inl ⟨rfl,h.symm⟩
 . obtain⟨a,rfl⟩:=ef h;exact .inr ⟨_,_,rfl,by simpa using a,rfl⟩
 . cases h
theorem xJ(ae:dB w Γ s a.tmps){x:Option Operand}{y:Option aA}(h:gt x=I y){d n:Nat}(c:gE d (dO s y)=I n):
 (x=ag/\n=d)∨∃b k i,x=I b/\a.eval b=.int k i/\0<=i/\n=i.toNat:=by
 cases x with
 |none=>
  simp only[gt,aC] at h;subst h;rcases za c with⟨_,e⟩|⟨k,i,e,_⟩
  . exact .inl ⟨rfl,e⟩
  . simp[dO] at e
 |some b=>
  simp only[gt,cL] at h;obtain⟨l,j,rfl⟩:=h;rcases za c with⟨e,_⟩|⟨k,i,e,g,f⟩
  . simp[dO] at e
  . simp only[dO,aC] at e;have:=du ae j;rw[e] at this;exact .inr ⟨b,k,i,rfl,ih this,g,f⟩
def ri(ae:dB w Γ s a.tmps){lo hi mx:Option Operand}{lo' hi' mx':Option aA}(i:gt lo=I lo')(g:gt hi=I hi')(j:gt mx=I mx')(c:mx=ag∨hi≠ag)
 {b:Bool}{len cap l h m:Nat}(e:gE 0 (dO s lo')=I l)(f:gE len (dO s hi')=I h)(e3:gE cap (dO s mx')=I m)(k:l<=h)(n:h<=m)(o:m<=cap)(d:World):
 (Instr.sliceBounds b len cap (lo.map a.eval) (hi.map a.eval) (mx.map a.eval)).run P d=.ok (l,h,m) d:=by
 rcases xJ ae j e3 with⟨rfl,rfl⟩|⟨A,bA,q,rfl,x,u,rfl⟩<;>rcases xJ ae g f with⟨rfl,rfl⟩|⟨z,ba,p,rfl,v,t,rfl⟩<;>rcases xJ ae i e with⟨rfl,rfl⟩|⟨y,aD,hW,rfl,gz,r,rfl⟩
 all_goals first
  |(exfalso;rcases c with c|c<;>simp at c;done)
  |simp[Instr.sliceBounds, *,acC]
def acF(ae:dB w Γ s a.tmps){t:TypeId}{x:Operand}{j f:Option Operand}{m:aA}{k g:Option aA}(A:o.op=.slice t x j f ag)(B:P.underlying t=I .string)(C:bJ x=I m)
 (z:gt j=I k)(y:gt f=I g)(h:ul (aw s m) (dO s k) (dO s g)=I v):gj P w Γ a o v:=by
 have c:=du ae C;unfold ul at h;split at h
 . rename_i b r;rw[r] at c;have c:=n6 c;split at h
   . rename_i l e n p;obtain⟨d,rfl⟩:=ef h;simp only[bL,cZ] at d;have q:(oj b.toArray).size=b.length:=by show b.toArray.size=_;simp
     refine⟨_,.str _,λD _=>?_⟩;have i:=ri (P:=P) (b:=ad) ae z y (mx:=ag) (mx':=ag) rfl (.inl rfl) n p (e3:=(rfl:gE b.length (dO s ag)=I b.length)) d.1 d.2 (bk _) D;have u:(oj b.toArray).extract l e=⟨((b.drop l).take (e -l)).toArray⟩:=by apply ByteArray.ext;simp[ByteArray.data_extract]
     simp only[Option.map_none] at i;simp[execOp,A,Instr.sliceAt,Instr.slice,dC B,c,q,i,u]
   . cases h
 . cases h
theorem Ai{n:Nat}{a:List (List V)}(h:dP n a=U){b:Nat}(c:∀(i:Nat)(r:List V),a[i]? =I r->r.length=b):a=[]∨b=n:=by
 cases a with
 |nil=>exact .inl rfl
 |cons r e=>have d:=c 0 r rfl;simp only[dP,beq_iff_eq] at h;exact .inr J
def Lf(a2:Good w Γ M)(ae:dB w Γ s a.tmps){t e:TypeId}{n:Nat}{x:Operand}{lo hi mx:Option Operand}{aN:aA}{lo' hi' mx':Option aA}(am:o.op=.slice t x lo hi mx)(ao:P.underlying t=I (.slice e))(aj:d3 P e=I n)
 (bd:bJ x=I aN)(W:gt lo=I lo')(T:gt hi=I hi')(g:gt mx=I mx')(X:mx=ag∨hi≠ag)
 (h:eQ n (aw s aN) (dO s lo') (dO s hi') (dO s mx') M=I v):gj P w Γ a o v:=by
 have Z:=du ae bd;unfold eQ at h;split at h
 . rename_i A c aD;rw[aD] at Z;split at h
   . rename_i l f m G H D;obtain⟨K,rfl⟩:=ef h;simp only[bL,cZ] at K;obtain⟨⟨⟨aI,ar⟩,aq⟩,av⟩:=K;generalize S:a.eval x=aP at Z;cases Z with
     |hf _ R=>
      have ai:m=0:=by simpa using av
      have af:f=0:=J;have ah:l=0:=J;subst ai af ah;have C:∀d,(Instr.sliceBounds U 0 0 (lo.map a.eval) (hi.map a.eval) (mx.map a.eval)).run P d=.ok (0,0,0) d:=λd=>ri (P:=P) (b:=U) ae W T g X G H D (bk _) (bk _) (bk _) d;refine⟨.slice ag 0 0,?_,λd _=>by simp[execOp,am,Instr.sliceAt,Instr.slice,dC ao,S,C,fP aj]⟩;have:∀q,kp c 0 0 ([]:List (List V)).length q=c:=by intro q;rcases R with rfl|rfl<;>rfl
      rw[this];simp only[List.drop_nil,List.take_nil];exact .hf c R
     |jv _ R p=>
      have ai:m=0:=by simpa using av
      have af:f=0:=J;have ah:l=0:=J;subst ai af ah;have C:∀d,(Instr.sliceBounds U 0 0 (lo.map a.eval) (hi.map a.eval) (mx.map a.eval)).run P d=.ok (0,0,0) d:=λd=>ri (P:=P) (b:=U) ae W T g X G H D (bk _) (bk _) (bk _) d;refine⟨.slice (I p) 0 0,?_,λd _=>by simp[execOp,am,Instr.sliceAt,Instr.slice,dC ao,S,C,fP aj]⟩;simp only[List.drop_nil,List.take_nil];refine .jv _ (λQ=>?_) p;cases c<;>simp[kp] at Q R;all_goals (cases mx'<;>simp[dO] at Q)
     |slice _ _ b of B cap aO R a1 aY aE bb a0 a7 a8=>
      have C:∀d,∃u,(Instr.sliceBounds U A.length cap (lo.map a.eval) (hi.map a.eval) (mx.map a.eval)).run P d=.ok (l,f,u) d/\f<=u/\(mx=ag->u=cap)/\(mx≠ag->u=m):=λd=>by
       rcases xJ ae g D with⟨rfl,_⟩|⟨bD,bA,bx,rfl,bB,bz,bg⟩
       . simp only[gt,aC] at g;subst g;exact⟨cap,ri (P:=P) (b:=U) ae W T rfl X G H (e3:=rfl) ar J (bk _) d,J,λ_=>rfl,λak=>aJ rfl ak⟩
       . have aQ:gE cap (dO s mx')=I m:=by
          rcases za D with⟨aT,_⟩|⟨k,i,aU,Q,aS⟩
          . simp only[gt,cL] at g;obtain⟨y,_,rfl⟩:=g;simp[dO] at aT
          . rw[aU];simp[gE,Q,aS]
         exact⟨m,ri (P:=P) (b:=U) ae W T g X G H aQ ar aq J d,aq,λa5=>(by cases a5),λ_=>rfl⟩
      obtain⟨u,bv,aK,au,aL⟩:=C w;have a9:∀d,(Instr.sliceBounds U A.length cap (lo.map a.eval) (hi.map a.eval) (mx.map a.eval)).run P d=.ok (l,f,u) d:=λd=>by
       obtain⟨bf,aG,_,ay,aH⟩:=C d;have:bf=u:=by
        by_cases Y:mx=ag
        . rw[ay Y,au Y]
        . rw[aH Y,aL Y]
       rw[<-this];exact aG
      have F:((A.drop l).take (f -l)).length=f -l:=by simp;omega
      refine⟨.slice (I ⟨b,if u=l then of else of+l*n,ag⟩) (f -l) (u -l),?_,λd _=>?_⟩
      . have aZ:∀aa,aa≠.nil->(aa=.full->u -l=f -l)->a_ w Γ (.slice ((A.drop l).take (f -l)) aa) (.slice (I ⟨b,if u=l then of else of+l*n,ag⟩) (f -l) (u -l)):=λaa aW aX=>by
         have:=a_.slice (w:=w) (Γ:=Γ) ((A.drop l).take (f -l)) aa b (if u=l then of else of+l*n) B (u -l) (λi j=>aO (l+i) j) aW (by rw[F];exact aX) (by rw[F];omega)
          (λi r hi=>by
            have hi':i<f -l:=by rw[<-F];exact(az.1 hi).1
            rw[fT hi',h2] at hi;exact aE _ _ hi)
          (λi j hi N=>by
            rw[F] at hi;have ak:A≠[]:=by rintro rfl;simp at av;omega
            have aF:B=n:=(Ai aI aE).resolve_left ak;rw[ax J,<-aF];have:=bb (l+i) j J N;rw[gZ] at this;rw[show of+l*B+(i*B+j)=of+(l*B+i*B+j) by omega];exact this)
          (λi j hi N=>by
            rw[F] at hi;have ak:A≠[]:=by rintro rfl;simp at av;omega
            have aF:B=n:=(Ai aI aE).resolve_left ak;rw[ax J,<-aF];have:=a0 (l+i) j J N;rw[gZ] at this;rw[show of+l*B+(i*B+j)=of+(l*B+i*B+j) by omega];exact this)
          (λi r j x hi N=>by
            have hi':i<f -l:=by rw[<-F];exact(az.1 hi).1
            rw[fT hi',h2] at hi;exact a7 _ _ _ _ hi N)
          (λi r j x hi N=>by
            have hi':i<f -l:=by rw[<-F];exact(az.1 hi).1
            rw[fT hi',h2] at hi;exact a8 _ _ _ _ hi N);rw[F] at this;exact this
        refine aZ _ ?_ ?_
        . cases c with
          |nil=>exact aJ rfl R
          |bF=>simp[kp]
          |any=>simp only[kp];cases(dO s mx').isSome&&(f==m)<;>simp
          |full=>simp only[kp];cases(dO s mx').isSome<;>cases(f==m)<;>cases(f==A.length)<;>simp
        . intro E;cases al:(dO s mx').isSome with
          |true=>
           have a4:mx≠ag:=by rintro rfl;simp only[gt,aC] at g;subst g;simp[dO] at al
           have bs:=aL a4;rw[al] at E;have:f=m:=by
            cases c<;>simp only[kp,Bool.true_and,bi,reduceCtorEq] at E;all_goals (cases ab:(f==m) with
             |true=>simpa using ab
             |false=>rw[ab] at E;simp at E)
           omega
          |false=>
           have Y:mx=ag:=by
            cases mx with
            |none=>rfl
            |some z=>simp only[gt,cL] at g;obtain⟨y,_,rfl⟩:=g;simp[dO] at al
           have bt:=au Y;rw[al] at E;have:c=.full/\f=A.length:=by
            cases c<;>simp only[kp,Bool.false_and,eE,reduceCtorEq] at E;refine⟨rfl,?_⟩;cases ab:(f==A.length) with
            |true=>simpa using ab
            |false=>rw[ab] at E;simp at E
           have:=a1 this.1;omega
      . simp only[execOp,am,Instr.sliceAt,Instr.slice,Sem.run_bind,dC ao,S,Result.andThen_ok,a9,fP aj,Sem.run_pure,jE,Addr.jI];split<;>simp
   . cases h
 . rename_i id ver start len aD;rw[aD] at Z;split at h
   . rename_i z A bC bh aV;split at h
     . rename_i l f m G H D;obtain⟨K,rfl⟩:=ef h;simp only[bL,cZ,beq_iff_eq] at K;obtain⟨⟨⟨⟨⟨be,bc⟩,bw⟩,ar⟩,aq⟩,bu⟩:=K;generalize S:a.eval x=aP at Z;cases Z with
       |an _ _ _ _ L aB aM _ ba _=>
        obtain⟨aG,Q,ay,aH,bj,bl,bm,bn,bo⟩:=a2.dI id L _ aB aV;rcases ba (by rw[ay,bc]) with⟨K,rfl,rfl⟩|⟨a3,aY,of,ap,rfl,bp,bq,a6⟩
        . have ai:m=0:=J;have af:f=0:=J;have ah:l=0:=J;subst ai af ah;have C:∀d,(Instr.sliceBounds U 0 0 (lo.map a.eval) (hi.map a.eval) (mx.map a.eval)).run P d=.ok (0,0,0) d:=λd=>ri (P:=P) (b:=U) ae W T g X G H D (bk _) (bk _) (bk _) d;refine⟨.slice ag 0 0,.an _ _ _ _ L aB aM _ (λ_=>.inl ⟨K,rfl,rfl⟩) rfl,λd _=>by simp[execOp,am,Instr.sliceAt,Instr.slice,dC ao,S,C,fP aj]⟩
        . obtain⟨O,aR,aK,au⟩:∃O,gE ap (dO s mx')=I O/\f<=O/\O<=ap:=by
           cases al:dO s mx' with
           |none=>exact⟨ap,rfl,J,bk _⟩
           |some q=>rw[al] at D;refine⟨m,?_,aq,J⟩;cases q<;>first|exact D|(simp[gE] at D;done)
          have C:∀d,(Instr.sliceBounds U len ap (lo.map a.eval) (hi.map a.eval) (mx.map a.eval)).run P d=.ok (l,f,O) d:=λd=>ri (P:=P) (b:=U) ae W T g X G H aR ar aK au d;refine⟨.slice (I ⟨L.b,if O=l then of else of+l*n,ag⟩) (f -l) (O -l),.an _ _ _ _ L aB aM _ (λ_=>.inr ⟨a3,J,_,_,rfl,J,J,λbr=>?_⟩) rfl,λd _=>?_⟩
          . rw[ax J,a6 J,Q,be,gZ]
          . simp only[execOp,am,Instr.sliceAt,Instr.slice,Sem.run_bind,dC ao,S,Result.andThen_ok,C,fP aj,Sem.run_pure,jE,Addr.jI];split<;>simp
     . cases h
   . cases h
 . cases h
end
section
variable{P:Program}{w:World}{Γ:Env}{M:Mem}{s:av}{a:Act}{o:Oper}{v:V}
def zt{x:V}{g:List V}{c:Value}(h:a_ w Γ x c)(b:x.cells?=I g):dz w Γ g c.cells:=by
 have one:∀{y:V}{a:Value},a_ w Γ y a->a.cells=#[a]->dz w Γ [y] a.cells:=λ{y a} o e=>by
  rw[e];refine⟨rfl,λj z f=>?_⟩;cases j with
  |zero=>simp only[hg,aC] at f;subst f;simpa using o
  |succ j=>simp at f
 cases x<;>simp only[V.cells?,aC,reduceCtorEq] at b<;>subst b
 case agg p=>cases h with|agg _ q d k=>exact⟨d,k⟩
 case an id ver start len=>
  cases h with
  |an _ _ _ _ l d n _ m b=>exact one (.an _ _ _ _ l d n _ m b) (by cases c<;>first|rfl|simp[Value.oneCell'] at b)
 all_goals (have i:=h;cases h<;>exact one i rfl)
theorem K8:∀(b:List V)(a:List Value)(k off:Nat)(cells:List V)(c:Array Value),dz w Γ cells c->a.length=b.length->(∀(j:Nat)(x:V),b[j]? =I x->a_ w Γ x (a.getD j Go.undef))->
 dz w Γ (e6 cells (off+k) b) ((a.zipIdx k).foldl (λh p=>h.setIfInBounds (off+p.2) p.1) c)
 |[],a,k,off,cells,c,f,e,_=>by have:a=[]:=lY.1 e;subst this;simpa[e6] using f
 |x::b,d::a,k,off,cells,c,f,e,g=>by simp only[e6,List.zipIdx_cons,List.foldl_cons];have i:=g 0 x rfl;rw[show off+k+1=off+(k+1) by omega];refine K8 b a (k+1) off _ _ (f.set i) (by simpa using e) (λj y l=>?_);simpa using g (j+1) y (by simpa using l)
 |x::b,[],k,off,cells,c,f,e,g=>by simp at e
theorem xV:∀(a cells:List V)(off:Nat),(e6 cells off a).length=cells.length
 |[],cells,off=>rfl
 |x::a,cells,off=>by simp[e6,xV a]
inductive tl(w:World)(Γ:Env)(place:Nat->Option (Nat×Nat)):List (Nat×Nat×V)->List (Nat×Value)->Prop
 |nil:tl w Γ place [] []
 |cons {off size i:Nat} {x:V} {Es:Value} {Kq:List (Nat×Nat×V)} {Bd:List (Nat×Value)} (pV:place i=I (off,size)) (aeQ:a_ w Γ x Es) (h:tl w Γ place Kq Bd):tl w Γ place ((off,size,x)::Kq) ((i,Es)::Bd)
theorem xa{place:Nat->Option (Nat×Nat)}{l:List (Nat×Nat×V)}{m:List (Nat×Value)}(h:tl w Γ place l m):∀{cells e:List V}{c:Array Value},dz w Γ cells c->ml cells l=I e->
 ∃d,Instr.fill place c m=I d/\dz w Γ e d:=by
 induction h with
 |nil=>intro cells e c b a;simp only[ml,aC] at a;subst a;exact⟨c,rfl,b⟩
 |@cons off size i x g l m r t B z=>
  intro cells e c b a;simp only[ml] at a;split at a
  . rename_i o u;have k:=zt t u;cases f:(o.length==size&&decide (off+size<=cells.length)) with
    |false=>simp[f] at a
    |true=>
     simp only[f,bi] at a;simp only[bL,beq_iff_eq,cZ] at f;have s:=K8 o g.cells.toList 0 off cells c b (by simpa using k.1) (λj y v=>by simpa[gL] using k.2 j y v);obtain⟨d,p,q⟩:=z s a;refine⟨d,?_,q⟩;have n:g.cells.size=size:=by rw[k.1];exact f.1
     have A:¬(off+g.cells.size>c.size):=by rw[b.1,n];omega
     simp only[Instr.fill,r];rw[ax (by simp[n,b.1];omega)];rw[<-Array.foldl_toList];simpa using p
  . cases a
def s6{t:TypeId}{z:List V}(h:jb P t=I z):∃a:Value,(∀c,(zeroValue t).run P c=.ok a c)/\∀(w:World)(Γ:Env),dz w Γ z a.cells/\∀(j:Nat)(x:V),z[j]? =I x->x.ia=U:=by
 unfold jb at h;split at h
 . rename_i i f;split at h
   . rename_i a g;refine⟨a,λc=>by simp[zeroValue,typeInfo,f,g],λw Γ=>?_⟩;obtain⟨e,d⟩:=wV (w:=w) (Γ:=Γ) h;exact⟨⟨by simpa using e,λj x b=>by simpa using(d j x b).1⟩,λj x b=>(d j x b).2⟩
   . cases h
 . cases h
theorem Kf:∀(a:List Field),a.all (λf=>(d3 P f.type).isSome)=U->∀b:World,
 (a.mapM (λf=>do pure (f.offset,<-sizeOf f.type):Field->Sem (Nat×Nat))).run P b=.ok (a.map λf=>(f.offset,(d3 P f.type).getD 0)) b
 |[],_,b=>by simp
 |f::a,h,b=>by simp only[List.all_cons,bL] at h;obtain⟨n,c⟩:=Option.isSome_iff_exists.1 h.1;have d:=Kf a h.2 b;simp only[List.mapM_cons,Sem.run_bind,fP c,Result.andThen_ok,Sem.run_pure,d,gg,c,nz]
theorem Ka(ae:dB w Γ s a.tmps){c:Array Field}:∀{dp:List (Nat×Operand)}{b:List (Nat×Nat×aA)},ud P c dp=I b->
 tl w Γ (λi=>(c.map λf=>(f.offset,(d3 P f.type).getD 0))[i]?) (iB s b) (dp.map λp=>(p.1,a.eval p.2))
 |[],b,h=>by simp only[ud,aC] at h;subst h;exact .nil
 |(i,x)::cJ,b,h=>by
  simp only[ud] at h;split at h
  . rename_i f y r d j g;split at h
    . rename_i n e;simp only[aC] at h;subst h;exact .cons (by simp[d,e]) (du ae j) (Ka ae g)
    . cases h
  . cases h
theorem xR(ae:dB w Γ s a.tmps){n:Nat}:∀{dp:List (Nat×Operand)}{b:List (Nat×Nat×aA)},o7 n dp=I b->
 tl w Γ (λi=>I (i*n,n)) (iB s b) (dp.map λp=>(p.1,a.eval p.2))
 |[],b,h=>by simp only[o7,aC] at h;subst h;exact .nil
 |(i,x)::cJ,b,h=>by
  simp only[o7] at h;split at h
  . rename_i y r d c;simp only[aC] at h;subst h;exact .cons rfl (du ae d) (xR ae c)
  . cases h
def Du(ae:dB w Γ s a.tmps){t:TypeId}{dp:Array (Nat×Operand)}{z:List V}{m:List (Nat×Nat×aA)}(u:o.op=.build t dp)(D:jb P t=I z)
 (g:(∃b,P.underlying t=I (.struct b)/\b.toList.all (λf=>(d3 P f.type).isSome)=U/\ud P b dp.toList=I m)∨
   (∃k e n,P.underlying t=I (.array k e)/\d3 P e=I n/\o7 n dp.toList=I m))
 (h:r1 z (iB s m)=I v):gj P w Γ a o v:=by
 unfold r1 at h;split at h
 . rename_i E r;simp only[aC] at h;subst h;obtain⟨F,y,x⟩:=s6 D;have q:(dp.map λp=>(p.1,a.eval p.2)).toList=dp.toList.map λp=>(p.1,a.eval p.2):=by simp
   rcases g with⟨b,g,A,l⟩|⟨k,e,n,g,C,l⟩
   . obtain⟨d,j,c⟩:=xa (Ka ae l) (x w Γ).1 r;refine⟨.agg d,.agg _ _ c.1 c.2,λi _=>?_⟩;have B:(b.mapM (λf=>do pure (f.offset,<-sizeOf f.type):Field->Sem (Nat×Nat))).run P i=.ok (b.map λf=>(f.offset,(d3 P f.type).getD 0)) i:=by
      rw[Array.mapM_eq_mapM_toList];simp only[Sem.run_map,Kf b.toList A i,Result.andThen_ok]
      congr 1
      apply Array.ext';simp
     simp only[execOp,u,Instr.build,Sem.run_bind,y,Result.andThen_ok,dC g,B,q,j,Sem.run_pure]
   . obtain⟨d,j,c⟩:=xa (xR ae l) (x w Γ).1 r;refine⟨.agg d,.agg _ _ c.1 c.2,λi _=>?_⟩;simp only[execOp,u,Instr.build,Sem.run_bind,y,Result.andThen_ok,dC g,fP C,q,j,Sem.run_pure]
 . cases h
end
def gP(P:Program)(w:World)(Γ:Env)(a:Act)(o:Oper)(v:V)(e:Mem):Prop:=
 ∃r b c,(execOp a.eval o).run P w=.ok r b/\((∃d,r=.value d/\a_ b c v d)∨(r=.skip/\v=.undef))/\Good b c e/\Ext w Γ b c
section
variable{P:Program}{w:World}{Γ:Env}{M:Mem}{s:av}{a:Act}{o:Oper}{v:V}
def gj.JI(h:gj P w Γ a o v)(e:Good w Γ M):gP P w Γ a o v M:=by obtain⟨b,c,d⟩:=h;exact⟨_,w,Γ,d w (Below.refl _ _),.inl ⟨b,rfl,c⟩,e,Ext.refl _ _⟩
def IZ{x:V}{a:Value}(h:a_ w Γ x a)(b:x.gU=U):a.oneCell'=U:=by cases h<;>first|rfl|(simp[V.gU] at b;done)|assumption
def P7{a:List V}{c:Array Value}(h:dz w Γ a c)(e:ko a=U):∀d∈c.toList,d.oneCell'=U:=by
 intro d f;obtain⟨j,g,rfl⟩:=List.getElem_of_mem f;have b:j<a.length:=by rw[<-h.1];simpa using g
 have i:(a[j]).gU=U:=by
  clear h f g;induction a generalizing j with
  |nil=>simp at b
  |cons z m l=>
   simp only[ko,bL] at e;cases j with
   |zero=>exact e.1
   |succ j=>exact l e.2 j (by simpa using b)
 have:=IZ (h.2 j a[j] (by simp[b])) i;have k:j<c.size:=by rw[h.1];exact b
 simpa[k] using this
theorem qu:∀{c:List V},fL c=U->∀(j:Nat)(x:V),c[j]? =I x->x.ia=U
 |[],_,j,x,a=>by simp at a
 |z::d,b,j,x,a=>by
  simp only[fL,bL] at b;cases j with
  |zero=>simp at a;exact a▸b.1
  |succ j=>exact qu b.2 j x (by simpa using a)
def adZ{off row:Nat}{b cells a:List V}(h:ym off b cells row=I a):off=0/\∃x,b=[x]/\row<cells.length/\a=cells.set row x:=by
 unfold ym at h;split at h
 . rename_i x;obtain⟨c,rfl⟩:=ef h;exact⟨rfl,x,rfl,by simpa using c,rfl⟩
 . cases h
def Qd(h:Good w Γ M){e:TypeId}{z:List V}(i:o.op=.alloc e)(j:jb P e=I z):gP P w Γ a o (.ptr M.length 0) (M++[.box z]):=by obtain⟨k,f,g⟩:=s6 j;obtain⟨b,c,d⟩:=h.C6 k.cells e z (g w Γ).1;refine⟨_,_,_,?_,.inl ⟨_,rfl,d⟩,b,c⟩;simp[execOp,i,Instr.alloc,f,newVar,newRow]
def Q5(j:Good w Γ M)(ae:dB w Γ s a.tmps){e:TypeId}{n:Nat}{x:Operand}{y:aA}{b:Mem}(k:o.op=.box e x)(l:bJ x=I y)(h:uR n (aw s y) M=I (v,b)):gP P w Γ a o v b:=by
 unfold uR at h;split at h
 . rename_i c i;obtain⟨_,h⟩:=ef h;simp only[dh] at h;obtain⟨rfl,rfl⟩:=h;obtain⟨d,f,g⟩:=j.C6 _ e c (zt (du ae l) i);refine⟨_,_,_,?_,.inl ⟨_,rfl,g⟩,d,f⟩;simp[execOp,k,Instr.box,newVar,newRow]
 . cases h
def aa0(f:Good w Γ M)(ae:dB w Γ s a.tmps){t j e:TypeId}{x:Operand}{y:aA}{d:Mem}(D:o.op=.range t x)(E:P.underlying t=I (.map j e))(G:bJ x=I y)(h:vP (aw s y) M=I (v,d)):gP P w Γ a o v d:=by
 have c:=du ae G;unfold vP at h;split at h
 . rename_i id aS;split at h
   . rename_i m A;simp only[aC,dh] at h;obtain⟨rfl,rfl⟩:=h;rw[aS] at c;generalize C:a.eval x=H at c;cases c with
     |map _ l g B F=>obtain⟨_,_,_,k,clock,u,J,K,z⟩:=f.dI id l _ g A;have i:=run_range_map (P:=P) w t j e l.b k clock E u;rw[z] at i;obtain⟨p,q,r⟩:=f.Qb (n:=m.length) g B F;refine⟨_,_,_,?_,.inl ⟨_,rfl,r⟩,p,q⟩;simp[execOp,D,C,i]
   . cases h
 . cases h
def K7{w:World}{r:Nat}{o:Obj}{k:Nat}(h:k≠r):(ChangeMaps.setBlock w r o).heap[k]? =w.heap[k]? :=by simp[ChangeMaps.setBlock,Array.getElem?_setIfInBounds_ne (cA h)]
def aco{w:World}{r:Nat}{o:Obj}(h:r<w.heap.size):(ChangeMaps.setBlock w r o).heap[r]? =I o:=by simp[ChangeMaps.setBlock,h]
def ZZ(s:Good w Γ M){id mid n:Nat}{seen:List Nat}{d:List (V×V)}{l:Loc}(u:Γ.cf[id]? =I l)(X:M[id]? =I (.iter mid n seen))(ab:M[mid]? =I (.map d))(Q:d.length=n)(G:TypeId):
 ((∀i,i<n->i∈seen)/\(Instr.next (.pointer (I ⟨l.b,0,ag⟩)) ad G).run P w=.ok (.tuple #[.bool ad]) w)∨
 ∃i f K z H,d[i]? =I f/\i∉seen/\(Instr.next (.pointer (I ⟨l.b,0,ag⟩)) ad G).run P w=.ok K z/\a_ z H (.tuple [.bool U,f.1,f.2]) K/\Good z H (M.set id (.iter mid n (seen++[i])))/\Ext w Γ z H:=by
 obtain⟨R,E,L,y,N,S,T,W⟩:=s.dI id l _ u X;obtain⟨_,_,_,c,clock,bA,ak,F,al⟩:=s.dI mid y _ N ab;have Y:clock=n:=al.trans Q;subst Y;have get:∀x∈c.toList,∃(i:Nat)(f:V×V),c[i]? =I x/\d[i]? =I f/\x.born=i:=λx a=>by
  obtain⟨i,p⟩:=eb a;have B:c[i]? =I x:=by simpa using p
  have v:i<d.length:=by rw[<-ak];exact(jC.1 B).1
  exact⟨i,d[i],B,cG v,(F i x d[i] B (cG v)).2.2.2.2⟩
 have ai:∀x∈c.toList,x.born<clock:=λx a=>by obtain⟨i,f,p,t,g⟩:=get x a;rw[g,<-Q];exact(az.1 t).1
 rcases run_next_at (P:=P) w G l.b y.b clock clock seen.toArray c clock W bA ai (bk _) with⟨an,D⟩|⟨e,r,h,aj,D⟩
 . refine .inl ⟨λi p=>?_,D⟩;have v:i<c.size:=J;have ap:c[i]∈c.toList:=by simp
   have g:c[i].born=i:=by have Z:i<d.length:=J;exact(F i c[i] d[i] (by simp[v]) (cG Z)).2.2.2.2
   by_cases ae:i∈seen
   . exact ae
   . exfalso;have:c[i]∈leftOf c seen.toArray:=by
      unfold leftOf;rw[Array.mem_filter];exact⟨by simp,by simp[g,ae]⟩
     have:=Array.size_pos_of_mem this;omega
 . have O:e∈c.toList/\seen.toArray.contains e.born=ad:=by
    unfold leftOf at r;simp only[Array.mem_toList_iff,Array.mem_filter] at r;exact⟨by simpa using r.1,by simpa using r.2⟩
   obtain⟨i,f,p,t,g⟩:=get e O.1;have af:i∉seen:=by have:=O.2;rw[g] at this;simpa using this
   have m:Good h Γ M/\Ext w Γ h Γ/\h.heap=w.heap:=by
    rcases aj with rfl|rfl
    . exact⟨s,Ext.refl _ _,rfl⟩
    . exact⟨s.drew,Ext.drew w Γ,rfl⟩
   obtain⟨m,A,ao⟩:=m;have aa:l.b<h.heap.size:=m.j0 u E;have q:Ext h Γ (ChangeMaps.setBlock h l.b (.mapIter (I y.b) clock (seen.toArray.push e.born) clock)) Γ:=
    Ext.write m u (λk C=>K7 C) (by simp[ChangeMaps.setBlock]) rfl rfl rfl (λo ah=>aJ ah (L o));obtain⟨_,_,a2,am,_⟩:=F i e f p t;refine .inr ⟨i,f,_,_,Γ,t,af,D,?_,m.write u E q (λk C=>K7 C) ⟨R,E,L,y,N,S,T,?_⟩,A.trans q⟩
   . refine .tuple _ _ rfl λj x a=>?_;match j,a with
     |0,a=>simp at a;subst a;exact .bool U
     |1,a=>simp at a;subst a;exact(a2.ext A).ext q
     |2,a=>simp at a;subst a;exact(am.ext A).ext q
   . rw[aco aa,g];simp
def Yw(d:Good w Γ M)(ae:dB w Γ s a.tmps){x:Operand}{e:aA}{t r f:TypeId}{c:Mem}(n:o.op=.call ⟨.builtin .len,#[x],#[t]⟩) (p:P.underlying t=I (.map r f)) (q:bJ x=I e)
 (h:vy (aw s e) M=I (v,c)):gP P w Γ a o v c:=by
 have b:=du ae q;unfold vy at h;split at h
 . rename_i id aS;split at h
   . rename_i z j;simp only[aC,dh] at h;obtain⟨rfl,rfl⟩:=h;rw[aS] at b;generalize k:a.eval x=u at b;cases b with
     |map _ l m C D=>obtain⟨_,_,_,y,clock,g,i,A,B⟩:=d.dI id l _ m j;refine⟨_,w,Γ,?_,.inl ⟨_,rfl,.int _ _⟩,d,Ext.refl _ _⟩;rw[<-i];simp[execOp,n,resolve,invoke,builtin,k,Builtin.len_,dC p,MapKept.run_getObj_map g,goInt]
   . cases h
 . cases h
def Tv(f:Good w Γ M)(ae:dB w Γ s a.tmps){x:Operand}{y:aA}{q:Mem}(Q:o.op=.entry x)(d:bJ x=I y)(h:tH (aw s y) M=I (v,q)):gP P w Γ a o v q:=by
 have m:=du ae d;unfold tH at h;split at h
 . rename_i id aS;split at h
   . rename_i mid n seen C;split at h
     . rename_i e i N L;obtain⟨k,h⟩:=nQ h;simp only[cL,dh] at h;obtain⟨X,u,rfl,rfl⟩:=h;rw[aS] at m;generalize E:a.eval x=Z at m;cases m with
       |ptr _ _ l K t T=>
        obtain⟨aa,T,ab,A,B,af,ah,r⟩:=f.dI id l _ K C;obtain⟨_,_,_,c,clock,bA,V,z,W⟩:=f.dI mid A _ B N;have k:e.length=n:=l2 k;have D:clock=n:=W.trans k;subst D;have G:i<c.size:=by rw[V];exact(az.1 u).1
        have F:c[i]? =I c[i]:=by simp[G]
        obtain⟨_,_,a2,Y,t⟩:=z i _ X F u;have O:(c.toList.map (·.born)).Nodup:=by
         have:c.toList.map (·.born)=b8 c.size:=by
          refine lp λj=>?_;by_cases g:j<c.size
          . have H:j<e.length:=J;have:=(z j c[j] e[j] (by simp[g]) (cG H)).2.2.2.2;simp[g,this]
          . simp[g]
         rw[this];exact List.nodup_range
        obtain⟨p,rfl⟩:=List.getLast?_eq_some_iff.1 L;have S:(p++[i]).toArray=p.toArray.push c[i].born:=by rw[t,List.push_toArray]
        rw[S] at r;have R:=run_entry_at (P:=P) w l.b A.b clock p.toArray c clock c[i] r bA (by simp) O;refine⟨_,w,Γ,(show(execOp a.eval o).run P w=.ok (.value (.tuple #[c[i].key,c[i].val])) w by simp[execOp,Q,E,R]),.inl ⟨_,rfl,?_⟩,f,Ext.refl _ _⟩;refine .tuple _ _ rfl λj x d=>?_;match j,d with
        |0,d=>simp at d;subst d;exact a2
        |1,d=>simp at d;subst d;exact Y
     . cases h
   . cases h
 . cases h
def Ze(n:Good w Γ M)(ae:dB w Γ s a.tmps){t:TypeId}{A g:TypeId}{r:Option Operand}{e:Option aA}{c:Mem}(d:o.op=.makeMap t r)(q:P.underlying t=I (.map A g))(b:gt r=I e)(h:sw (dO s e) M=I (v,c)):gP P w Γ a o v c:=by
 obtain⟨j,l,m⟩:=n.Qc;have key:v=.map M.length/\c=M++[.map []]/\(r=ag∨∃x k i,r=I x/\a.eval x=.int k i):=by
  cases r with
  |none=>simp only[gt,aC] at b;subst b;simp only[dO,sw,aC,dh] at h;exact⟨h.1.symm,h.2.symm,.inl rfl⟩
  |some x=>
   simp only[gt,cL] at b;obtain⟨y,z,rfl⟩:=b;have f:=du ae z;simp only[dO,sw] at h;split at h
   . rename_i heq;cases heq
   . rename_i k i heq;simp only[aC] at heq h;rw[heq] at f;simp only[dh] at h;exact⟨h.1.symm,h.2.symm,.inr ⟨x,k,i,rfl,ih f⟩⟩
   . cases h
 obtain⟨rfl,rfl,p⟩:=key;refine⟨_,_,_,?_,.inl ⟨_,rfl,m⟩,j,l⟩;rcases p with rfl|⟨x,k,i,rfl,u⟩
 . simp[execOp,d,Instr.makeMap]
 . simp[execOp,d,Instr.makeMap,dC q,u,asInt,asIntOf]
def n7:Array Value->Nat->List Value->Array Value
 |c,_,[]=>c
 |c,o,d::a=>n7 (c.setIfInBounds o d) (o+1) a
theorem pg:∀(a:List Value)(c:Array Value)(o:Nat),(n7 c o a).size=c.size
 |[],c,o=>rfl
 |d::a,c,o=>by simp[n7,pg a]
theorem n8:∀(a:List Value)(c:Array Value)(o j:Nat),o+a.length<=c.size->(n7 c o a).getD j Go.undef=if o<=j/\j<o+a.length then a.getD (j -o) Go.undef else c.getD j Go.undef
 |[],c,o,j,h=>by simp[n7];intro _ _;omega
 |d::a,c,o,j,h=>by
  simp only[cc] at h;rw[n7,n8 a _ _ j (by simp;omega)];by_cases b:o+1<=j/\j<o+1+a.length
  . rw[aF b,aF (by simp;omega)];rw[show j -o=(j -(o+1))+1 by omega];simp
  . rw[ax b];by_cases e:j=o
    . subst e;rw[aF (by simp)];have:j<c.size:=J;simp[gL,this]
    . rw[ax (by simp;omega)];simp[gL,Array.getElem?_setIfInBounds_ne (cA e)]
theorem sR{b:Nat}{T:TypeId}:∀(e:List Value)(c:Array Value)(o k:Nat)(w:World),w.heap[b]? =I (.cells c T (0,0))->o+k+e.length<=c.size->(∀d∈e,d.oneCell'=U)->
 ∃a,(storeCells ⟨b,o,ag⟩ e k).run P w=.ok () a/\a.heap[b]? =I (.cells (n7 c (o+k) e) T (0,0))/\(∀j,j≠b->a.heap[j]? =w.heap[j]?)/\a.heap.size=w.heap.size/\a.os=w.os/\a.tape=w.tape/\a.output=w.output
 |[],c,o,k,w,f,l,g=>⟨w,by simp[storeCells],f,λ_ _=>rfl,rfl,rfl,rfl,rfl⟩
 |d::e,c,o,k,w,f,l,g=>by
  simp only[cc] at l;have v:w.cell? ⟨b,o+k,ag⟩=I (c.getD (o+k) Go.undef):=by rw[iy f];exact h9 J
  have y:w.frozen? ⟨b,o+k,ag⟩=ad:=by simp[World.frozen?,f]
  have h:=run_store P w ⟨b,o+k,ag⟩ d .plain (g d (by simp));simp only[v,y] at h;obtain⟨a,n,p,q,r,s,t,u⟩:=sR e (c.setIfInBounds (o+k) d) o (k+1) (w.setCell ⟨b,o+k,ag⟩ d) (XH w b (o+k) d f) (by simp;omega) (λm x=>g m (by simp[x]));refine⟨a,?_,?_,λj i=>(q j i).trans (XI w _ d i),r.trans (by simp),s,t,u⟩
  . simp only[storeCells,Addr.jI,Sem.run_bind,h];simpa using n
  . simpa[n7,jg] using p
theorem Ba(a cells:List V)(off j:Nat)(h:off+a.length<=cells.length):(e6 cells off a)[j]? =if off<=j/\j<off+a.length then a[j -off]? else cells[j]? :=by
 induction a generalizing cells off with
 |nil=>simp[e6];intro _ _;omega
 |cons x a d=>
  simp only[cc] at h;rw[e6,d _ _ (by simp;omega)];by_cases b:off+1<=j/\j<off+1+a.length
  . rw[aF b,aF (by simp;omega),show j -off=(j -(off+1))+1 by omega];simp
  . rw[ax b];by_cases c:j=off
    . subst c;rw[aF (by simp),bY J];simp
    . rw[ax (by simp;omega),bo (cA c)]
def aaJ{a cells:List V}{b:List Value}{c:Array Value}{off:Nat}(e:dz w Γ cells c)(i:dz w Γ a b.toArray)(h:off+a.length<=cells.length):dz w Γ (e6 cells off a) (n7 c off b):=by
 have g:b.length=a.length:=by simpa using i.1
 refine⟨by rw[pg,xV];exact e.1,λj x d=>?_⟩;rw[Ba a cells off j h] at d;rw[n8 b c off j (by rw[e.1,g];exact h),g];split at d
 . rename_i f;rw[aF f];have:=i.2 _ _ d;simpa[gL] using this
 . rename_i f;rw[ax f];exact e.2 j x d
def ac_(k:Good w Γ M)(ae:dB w Γ s a.tmps){t:TypeId}{n:Nat}{x y:Operand}{aP aQ:aA}{aK:Mem}(aE:o.op=.store t x y)(aD:d3 P t=I n)(a2:bJ x=I aP)(a4:bJ y=I aQ)
 (h:uo n (aw s aP) (aw s aQ) M=I aK):gP P w Γ a o .undef aK:=by
 have E:=du ae a2;have a6:=du ae a4;unfold uo at h;split at h
 . rename_i G a3;cases d:(G.length==n&&ko G) with
   |false=>simp[d] at h
   |true=>
    simp only[d,bi] at h;simp only[bL,beq_iff_eq] at d;have Q:=zt a6 a3;have aG:=P7 Q d.2;have aI:(a.eval y).cells.size=n:=by rw[Q.1];exact d.1
    have B:(a.eval y).cells.toList.length=G.length:=by simpa using Q.1
    split at h
    . rename_i id off D;rw[D] at E;split at h
      . rename_i cells O;obtain⟨C,rfl⟩:=ef h;have C:off+n<=cells.length:=by simpa using C
        generalize ab:a.eval x=aL at E;cases E with
        |ptr _ _ l g a9 bc=>obtain⟨Z,aM,v,c,T,au,N⟩:=k.dI id l _ g O;obtain⟨F,S,H,u,V,W,X,Y⟩:=sR (P:=P) (a.eval y).cells.toList c off 0 w au (by rw[B,N.1,d.1];omega) aG;have f:Ext w Γ F Γ:=Ext.write k g u V W X Y (λL ah=>aJ ah (v L));have a0:dz w Γ (e6 cells off G) (n7 c off (a.eval y).cells.toList):=aaJ N (by simpa using Q) (by rw[d.1];exact C);refine⟨.skip,F,Γ,?_,.inr ⟨rfl,rfl⟩,k.write g aM f u ⟨Z,aM,v,_,T,H,(by simpa using a0.ext f)⟩,f⟩;simp[execOp,aE,Instr.storeAt,Instr.sureAddr,ab,storeVar,fP aD,aI,S]
      . cases h
    . rename_i id ver row off D;rw[D] at E;split at h
      . rename_i z a5 aq ar O;cases am:(aq==ver&&decide (ar<=row)&&fL G) with
        |false=>simp[am] at h
        |true=>
         simp only[am,bi] at h;simp only[bL,beq_iff_eq,cZ] at am;obtain⟨⟨K,aT⟩,aY⟩:=am;split at h
         . rename_i r ao;obtain⟨C,rfl⟩:=ef h;have C:off+n<=r.length:=by simpa using C
           generalize ab:a.eval x=aL at E;cases E with
           |df _ _ _ _ l g aB p aH=>
            obtain⟨Z,aj,v,au,N,al,av,aN,m⟩:=k.dI id l _ g O;have R:row<a5.length:=(az.1 ao).1;have af:l.live=U:=a_.wD k g O (by rintro rfl;simp at R);obtain⟨aa,c,T,m,A,ak⟩:=m af;have D:=aH (by rw[v,K]);subst D;have a1:=av row r ao;have aR:(row+1)*l.sz<=l.cap*l.sz:=hj _ J;rw[gZ,Nat.one_mul] at aR;obtain⟨F,S,H,u,V,W,X,Y⟩:=sR (P:=P) (a.eval y).cells.toList c (row*l.sz+off) 0 w m (by rw[B,d.1,A];omega) aG;have ba:ar*l.sz<=row*l.sz:=hj _ aT;have f:Ext w Γ F Γ:=Ext.write k g u V W X Y (λL ah=>by
             refine Bv m H ?_;rw[iy H,iy m];have an:L<ar*l.sz:=(aa L).1 ah;have aO:L<c.size:=by rw[A];omega
             rw[h9 (by rw[pg];exact aO),h9 aO,n8 _ _ _ _ (by rw[B,d.1,A];omega),ax J]);refine⟨.skip,F,Γ,?_,.inr ⟨rfl,rfl⟩,k.write g af f u ?_,f⟩
            . simp[execOp,aE,Instr.storeAt,Instr.sureAddr,ab,storeVar,fP aD,aI,S]
            . have aX:(e6 r off G).length=r.length:=xV _ _ _;have aZ:=qu aY;refine⟨Z,aj,v,by simpa using au,by simpa using N,al,λi ap b=>?_,λi ap j x b e=>?_,λ_=>⟨aa,_,T,H,by rw[pg];exact A,λi ap j x b e=>?_⟩⟩
              . by_cases q:row=i
                . subst q;rw[bY R] at b;simp only[aC] at b;rw[<-b,aX];exact a1
                . rw[bo q] at b;exact av i ap b
              . by_cases q:row=i
                . subst q;rw[bY R] at b;simp only[aC] at b;rw[<-b,Ba G r off j (by rw[d.1];exact C)] at e;split at e
                  . exact aZ _ _ e
                  . exact aN _ _ _ _ ao e
                . rw[bo q] at b;exact aN _ _ _ _ b e
              . by_cases q:row=i
                . subst q;rw[bY R] at b;simp only[aC] at b;rw[<-b,Ba G r off j (by rw[d.1];exact C)] at e;rw[n8 _ _ _ _ (by rw[B,d.1,A];omega),B,d.1];split at e
                  . rename_i aU;rw[aF J];have:=Q.2 _ _ e;rw[show row*l.sz+j -(row*l.sz+off+0)=j -off by omega];simpa[gL] using this.ext f
                  . rename_i aU;rw[ax J];exact(ak _ _ _ _ ao e).ext f
                . rw[bo q] at b;rw[n8 _ _ _ _ (by rw[B,d.1,A];omega),B,d.1];have bb:j<l.sz:=by rw[<-av i ap b];exact(az.1 e).1
                  have aW:¬(row*l.sz+off+0<=i*l.sz+j/\i*l.sz+j<row*l.sz+off+0+n):=by
                   rintro⟨bd,be⟩;rcases Nat.lt_or_gt_of_ne q with an|an
                   . have:(row+1)*l.sz<=i*l.sz:=hj _ an;rw[gZ] at this;omega
                   . have:(i+1)*l.sz<=row*l.sz:=hj _ an;rw[gZ] at this;omega
                  rw[ax aW];exact(ak _ _ _ _ b e).ext f
         . cases h
      . rename_i cells aq O;cases K:aq==ver with
        |false=>simp[K] at h
        |true=>
         simp only[K,bi] at h;have K:aq=ver:=by simpa using K
         split at h
         . rename_i a8 aS;simp only[aC] at h;subst h;obtain⟨rfl,a7,rfl,R,rfl⟩:=adZ aS;have aV:n=1:=by have:=d.1;simpa using this.symm
           subst aV;generalize ab:a.eval x=aL at E;cases E with
           |df _ _ _ _ l g aB p aH=>
            obtain⟨Z,aj,v,N,al,m⟩:=k.dI id l _ g O;have af:l.live=U:=by
             cases aB:l.live with
             |true=>rfl
             |false=>have:=al aB;omega
            obtain⟨aa,c,T,m,A,ak⟩:=m af;have D:=aH (by rw[v,K]);rw[aj,jV,g_] at D;subst D;have ay:(a.eval y).cells.toList.length=1:=by rw[B];rfl
            obtain⟨F,S,H,u,V,W,X,Y⟩:=sR (P:=P) (a.eval y).cells.toList c row 0 w m (by rw[ay];omega) aG;have f:Ext w Γ F Γ:=Ext.write k g u V W X Y (λL ah=>aJ ah (aa L));refine⟨.skip,F,Γ,?_,.inr ⟨rfl,rfl⟩,k.write g af f u ?_,f⟩
            . simp[execOp,aE,Instr.storeAt,Instr.sureAddr,ab,storeVar,fP aD,aI,S]
            . refine⟨Z,aj,v,by simpa using N,al,λ_=>⟨aa,_,T,H,by rw[pg];exact A,λj z ai=>?_⟩⟩;rw[n8 _ _ _ _ (by rw[ay];omega),ay];by_cases e:row=j
              . subst e;rw[bY R] at ai;simp only[aC] at ai;subst ai;rw[aF J,show row -(row+0)=0 by omega];have:=Q.2 0 a7 rfl;simpa[gL] using this.ext f
              . rw[bo e] at ai;rw[ax J];exact(ak j z ai).ext f
         . cases h
      . cases h
    . cases h
 . cases h
end
section
variable{P:Program}{w:World}{Γ:Env}{M:Mem}{s:av}{a:Act}{o:Oper}{v:V}
def pP(b a:Nat):Loc:=⟨b,ad,ad,a,0,0⟩
def Ext.si(w:World)(Γ:Env)(l:Loc):Ext w Γ w (Γ.fl l) where
 s b o ae:=⟨ae,rfl⟩
 cf i d a:=⟨d,by have c:i<Γ.cf.length:=(az.1 a).1;simp only[Env.fl];rw[et c,a],bk _,λ_=>rfl,λ_=>rfl⟩
 ek:=rfl
 below:=Below.refl _ _
 nr b o e ae:=ae
def Good.xh(h:Good w Γ M)(d:Nat){B:au}(p:pn w (Γ.fl (pP Γ.hl d)) (pP Γ.hl d) B):Good w (Γ.fl (pP Γ.hl d)) (M++[B]):=by
 have split:∀i c,(Γ.fl (pP Γ.hl d)).cf[i]? =I c->(i<M.length/\Γ.cf[i]? =I c)∨(i=M.length/\c=pP Γ.hl d):=by
  intro i c a;simp only[Env.fl] at a;by_cases b:i<Γ.cf.length
  . rw[et b] at a;exact .inl ⟨by rw[<-h.len];exact b,a⟩
  . rw[fH (Nat.le_of_not_lt b)] at a;have:i -Γ.cf.length=0:=by
     have:=(az.1 a).1;simp at this;omega
    rw[this] at a;simp at a;exact .inr ⟨by rw[<-h.len];omega,a.symm⟩
 refine⟨by simp[Env.fl,h.len],λi c m a e=>?_,λi c a=>?_,λi j g k n o gz l q=>?_,h.hx,h.bf,h.mH⟩
 . rcases split i c a with⟨b,f⟩|⟨b,rfl⟩
   . rw[et b] at e;exact(h.dI i c m f e).cj (Ext.si w Γ _) (λ_=>rfl) (λ_ _ h=>h)
   . subst b;simp at e;subst e;exact p
 . rcases split i c a with⟨b,f⟩|⟨b,rfl⟩
   . exact h.ek i c f
   . exact bk _
 . rcases split i g n with⟨b,s⟩|⟨b,rfl⟩<;>rcases split j k o with⟨r,t⟩|⟨r,rfl⟩
   . exact h.inj i j g k s t gz l q
   . cases l
   . cases gz
   . omega
def Good.si(h:Good w Γ M)(b:Nat):Good w (Γ.fl (pP Γ.hl b)) (M++[.aj b [] 0 0]):=
 h.xh b ⟨rfl,rfl,rfl,bk _,bk _,λ_=>rfl,λi r a=>by simp at a,λi r j x a=>by simp at a,λc=>by cases c⟩
theorem JN(b:Good w Γ M){x:Operand}{g:Nat}(f:o.op=.assign x)(d:An x=U){e:Mem}(h:t9 g M=I (v,e)):gP P w Γ a o v e:=by
 have c:a.eval x=.slice ag 0 0:=by
  unfold An at d;split at d
  . rfl
  . cases d
 simp only[t9,aC,dh] at h;obtain⟨rfl,rfl⟩:=h;cases g with
 |zero=>refine⟨_,w,_,by simp[execOp,f,c];rfl,.inl ⟨_,rfl,?_⟩,b.xh 1 (B:=.b7 [] 0) ⟨rfl,rfl,rfl,bk _,λ_=>rfl,λc=>by cases c⟩,Ext.si w Γ _⟩;exact .an _ _ _ _ (pP Γ.hl 1) (by simp[Env.fl,<-b.len]) (bk _) _ (λ_=>.inl ⟨rfl,rfl,rfl⟩) rfl
 |succ n=>refine⟨_,w,_,by simp[execOp,f,c];rfl,.inl ⟨_,rfl,?_⟩,b.si (n+1),Ext.si w Γ _⟩;exact .an _ _ _ _ (pP Γ.hl (n+1)) (by simp[Env.fl,<-b.len]) (bk _) _ (λ_=>.inl ⟨rfl,rfl,rfl⟩) rfl
def rY(b a cap:Nat):Loc:=⟨b,ad,U,a,cap,0⟩
def Good.C5(h:Good w Γ M)(c:Array Value)(T:TypeId)(a cap:Nat)(b:List (List V))(l:c.size=cap*a)(m:b.length<=cap)(n:∀(i:Nat)(r:List V),b[i]? =I r->r.length=a)
 (k:∀(i:Nat)(r:List V)(j:Nat)(x:V),b[i]? =I r->r[j]? =I x->x.ia=U/\a_ w Γ x (c.getD (i*a+j) Go.undef)):
 Good (w.alloc (.cells c T)) (Γ.fl (rY w.heap.size a cap)) (M++[.aj a b 0 0])/\Ext w Γ (w.alloc (.cells c T)) (Γ.fl (rY w.heap.size a cap)):=by
 have g:=Ext.mc h (.cells c T) (rY w.heap.size a cap);refine⟨h.mc _ _ rfl _ ⟨rfl,rfl,rfl,c_ _,m,(λp=>by cases p),n,λi r j x e f=>(k i r j x e f).1,λ_=>⟨λo=>⟨λd=>aJ d (h.q1 o),(λd=>by simp at d)⟩,c,T,heap_alloc_new w _,l,λi r j x e f=>(k i r j x e f).2.ext g⟩⟩,g⟩
theorem Bj(h:Good w Γ M){w':World}{sz cap len:Nat}(a:len<=cap):a_ w' (Γ.fl (rY w.heap.size sz cap)) (.an M.length 0 0 len) (.slice (I ⟨w.heap.size,0,ag⟩) len cap):=
 .an _ _ _ _ (rY w.heap.size sz cap) (by simp[Env.fl,<-h.len]) (bk _) _ (λ_=>.inr ⟨rfl,(by show 0+len<=cap;omega),0,cap,rfl,(by show 0+cap<=cap;omega),a,(λ_=>by simp)⟩) rfl
def aez{a:Array Value}{n b i j:Nat}(f:a.size=b)(c:j<b)(h:i*b+j<n):(((Array.range n).map (a[·%a.size]!)).getD (i*b+j) Go.undef)=a.getD j Go.undef:=by
 have e:(i*b+j)%a.size=j:=by rw[f,Nat.add_comm,Nat.add_mul_mod_self_right,Nat.mod_eq_of_lt c]
 have d:j<a.size:=J;simp[gL,h,e,d]
def Ji(D:Good w Γ M)(ae:dB w Γ s a.tmps){t e:TypeId}{i:TypeInfo}{z:List V}{l c:Operand}{G y:aA}{u:Mem}(ai:o.op=.makeSlice t l c)(ak:P.underlying t=I (.slice e))(E:P.info? e=I i)(al:jb P e=I z)
 (p:z.length=i.size)(aj:fL z=U)(Z:bJ l=I G)(X:bJ c=I y)(h:jq z i.size i.bytes (aw s G) (aw s y) M=I (v,u)):gP P w Γ a o v u:=by
 have f:=du ae Z;have d:=du ae X;unfold jq at h;split at h
 . rename_i aD L ba C K N;rw[K] at f;rw[N] at d;have f:=ih f;have d:=ih d;obtain⟨B,h⟩:=ef h;simp only[dh] at h;obtain⟨rfl,rfl⟩:=h;simp only[bL,cZ] at B;obtain⟨⟨⟨au,av⟩,ay⟩,ar⟩:=B;obtain⟨q,an,am⟩:=s6 al;have F:=(am w Γ).1;have aq:IntKind.i64.wrap L=L:=by
    have e:(2:Int)^IntKind.i64.bits=18446744073709551616:=by decide
    have g:(2:Int)^(IntKind.i64.bits -1)=9223372036854775808:=by decide
    unfold IntKind.wrap;simp only[e,g,show IntKind.i64.signed=U from rfl,Bool.true_and,cZ];split<;>omega
   have ap:IntKind.i64.wrap C=C:=by
    have e:(2:Int)^IntKind.i64.bits=18446744073709551616:=by decide
    have g:(2:Int)^(IntKind.i64.bits -1)=9223372036854775808:=by decide
    unfold IntKind.wrap;simp only[e,g,show IntKind.i64.signed=U from rfl,Bool.true_and,cZ];split<;>omega
   have ao:q.cells.size=i.size:=by rw[F.1,p]
   let cells:Array Value:=if C.toNat*i.size=0 then(Array.range (C.toNat*i.size)).map ((#[]:Array Value)[·%(#[]:Array Value).size]!) else(Array.range (C.toNat*i.size)).map (q.cells[·%q.cells.size]!)
   have Y:cells.size=C.toNat*i.size:=by simp only[cells];split<;>simp
   obtain⟨O,Q⟩:=D.C5 cells e i.size C.toNat (d_ L.toNat z) Y (by simp;omega)
    (λj r k=>by have:=(az.1 k);obtain⟨H,b⟩:=this;simp at b;rw[<-b];exact p)
    (λj r m x k n=>by
      obtain⟨H,b⟩:=az.1 k;simp only[List.length_replicate] at H;simp only[List.getElem_replicate] at b;subst b;refine⟨qu aj m x n,?_⟩;have ab:m<i.size:=by rw[<-p];exact(az.1 n).1
      have aa:j*i.size+m<C.toNat*i.size:=by have:(j+1)*i.size<=C.toNat*i.size:=hj _ J;rw[gZ] at this;omega
      have ah:¬(C.toNat*i.size=0):=J;simp only[cells,ax ah];rw[aez ao ab aa];exact F.2 m x n);refine⟨_,_,_,?_,.inl ⟨_,rfl,Bj D (w':=_) (sz:=i.size) (cap:=C.toNat) J⟩,O,Q⟩;have W:¬(2^48<(i.bytes:Int)*C):=by rw[Int.mul_comm];omega
   have af:(d3 P e)=I i.size:=by simp[d3,E]
   have R:¬C<0:=J;have S:¬L<0:=J;have T:¬L>C:=J;simp only[execOp,ai,Instr.makeSlice,Sem.run_bind,dC ak,Result.andThen_ok,f,d,asInt,asIntOf,Sem.run_pure,aq,ap,typeInfo,run_program,E];simp only[R,S,T,W,decide_false,Bool.or_false,Bool.false_or,gX,if_false,gt_iff_lt];simp only[Sem.run_bind,run_askRoom,Result.andThen_ok,fP af,Sem.run_ite,Sem.run_pure,an,newRow,run_newObj];by_cases A:C.toNat*i.size=0
   . simp only[cells,A,if_true];simp
   . simp only[cells,A,if_false];simp
 . cases h
def Good.toVec{z:V}{n ver:Nat}(a:Good w Γ (M++[.aj 1 (d_ n [z]) ver 0])):Good w Γ (M++[.b7 (d_ n z) ver]):=by
 refine⟨by have:=a.len;simpa using this,λi m B k b=>?_,a.ek,a.inj,a.hx,a.bf,a.mH⟩;rcases Nat.lt_trichotomy i M.length with d|d|d
 . rw[et d] at b;exact a.dI i m B k (by rw[et d];exact b)
 . subst d;simp only[List.getElem?_concat_length,aC] at b;subst b;obtain⟨l,f,q,A,r,s,C,D,g⟩:=a.dI M.length m (.aj 1 (d_ n [z]) ver 0) k (by simp);refine⟨l,f,q,by simpa using r,s,λy=>?_⟩;obtain⟨u,c,T,g,t,p⟩:=g y;refine⟨λo v=>?_,c,T,g,by rw[t,f,jV],λj x e=>?_⟩
   . have:=(u o).1 v;omega
   . have h:j<n:=by have:=(az.1 e).1;simpa using this
     rw[List.getElem?_replicate,aF h] at e;simp only[aC] at e;subst e;have:=p j [z] 0 z (by rw[List.getElem?_replicate,aF h]) rfl;rwa [f,jV,g_] at this
 . rw[jd (by simp;omega)] at b;cases b
def Zi(B:Good w Γ M)(ae:dB w Γ s a.tmps){t e:TypeId}{i:TypeInfo}{z:V}{l c:Operand}{q f:aA}{d:Mem}(G:o.op=.makeSlice t l c)(J:P.underlying t=I (.slice e))(C:P.info? e=I i)(K:jb P e=I [z])
 (p:[z].length=i.size)(H:fL [z]=U)(D:bJ l=I q)(A:bJ c=I f)(h:t1 z i.bytes (aw s q) (aw s f) M=I (v,d)):gP P w Γ a o v d:=by
 unfold t1 at h;split at h
 . rename_i k n F;split at h
   . rename_i v0 gO b;simp only[aC,dh] at h;obtain⟨rfl,rfl⟩:=h;have g:i.size=1:=p.symm;have E:gO=M++[.aj 1 (d_ n.toNat [z]) 0 0]:=by
      unfold jq at b;rw[F] at b;split at b
      . rename_i m O;simp only[V.int.injEq] at m;obtain⟨_,rfl⟩:=m;obtain⟨_,b⟩:=ef b;simp only[dh] at b;exact b.2.symm
      . cases b
     subst E;rw[<-g] at b;obtain⟨r,L,N,u,x,j,y⟩:=Ji B ae G J C K p H D A b;rw[g] at j;exact⟨r,L,N,u,x,j.toVec,y⟩
   . cases h
 . cases h
end
section
variable{P:Program}{w:World}{Γ:Env}{M:Mem}{s:av}{a:Act}{o:Oper}{v:V}
def p_{i j n sz:Nat}(a:i<n)(b:j<sz):i*sz+j<n*sz:=by have:(i+1)*sz<=n*sz:=hj _ a;rw[gZ] at this;omega
def kb(w:World)(Γ:Env)(b:Nat)(a:List (List V))(c:List Value):Prop:=
 c.length=a.length*b/\(∀(i:Nat)(r:List V),a[i]? =I r->r.length=b)/\
 ∀(i:Nat)(r:List V)(j:Nat)(x:V),a[i]? =I r->r[j]? =I x->x.ia=U/\a_ w Γ x (c.getD (i*b+j) Go.undef)
def KU(ae:Good w Γ M){x:V}{B:Value}(g:a_ w Γ x B){d:Nat}{y:List (List V)}(h:dg d M x=I y):
 ∃p cap f,B=.slice p y.length cap/\kb w Γ d y f/\∀k:World,(∀(b q:Nat)(u:Value),w.cell? ⟨b,q,ag⟩=I u->k.cell? ⟨b,q,ag⟩=I u)->(Builtin.firstCells d y.length B).run P k=.ok f.toArray k:=by
 unfold dg at h;split at h
 . rename_i m c;obtain⟨af,rfl⟩:=ef h;cases g with
   |hf=>exact⟨ag,0,[],rfl,⟨by simp,λi r a=>by simp at a,λi r j x a=>by simp at a⟩,λk _=>by simp[Builtin.firstCells]⟩
   |jv=>exact⟨_,0,[],rfl,⟨by simp,λi r a=>by simp at a,λi r j x a=>by simp at a⟩,λk _=>by simp[Builtin.firstCells,loadCells,loadCellsFrom]⟩
   |slice _ _ b of z cap A aC aF L F aK ab ak ap=>
    let f:=(b8 (m.length*d)).map λq=>A (q/d) (q%d)
    have v:m=[]∨z=d:=Ai af F;refine⟨_,_,f,rfl,⟨by simp[f],λi r a=>?_,λi r j x a g=>?_⟩,λk G=>?_⟩
    . rcases v with rfl|rfl
      . simp at a
      . exact F i r a
    . rcases v with rfl|rfl
      . simp at a
      . have o:i<m.length:=(az.1 a).1;have s:j<z:=by rw[<-F i r a];exact(az.1 g).1
        refine⟨ak _ _ _ _ a g,?_⟩;have Q:(i*z+j)/z=i:=by rw[Nat.add_comm,Nat.add_mul_div_right _ _ J,Nat.div_eq_of_lt s,dm]
        have R:(i*z+j)%z=j:=by rw[Nat.add_comm,Nat.add_mul_mod_self_right,Nat.mod_eq_of_lt s]
        have:f.getD (i*z+j) Go.undef=A i j:=by simp only[f,jc];rw[dK,List.getElem?_range (p_ o s)];simp[Q,R]
        rw[this];exact ap _ _ _ _ a g
    . simp only[Builtin.firstCells];rcases v with rfl|rfl
      . simp[f,loadCells,loadCellsFrom]
      . refine run_loadCells k ⟨b,of,ag⟩ (m.length*z) (λq=>A (q/z) (q%z)) (λq al=>?_);rw[Addr.jI];refine G _ _ _ ?_;have O:0<z:=by
         rcases Nat.eq_zero_or_pos z with n|n
         . subst n;simp at al
         . exact n
        have am:q/z<m.length:=by rw[Nat.div_lt_iff_lt_mul O];exact al
        have ao:q%z<z:=Nat.mod_lt _ O;have:=ab (q/z) (q%z) am ao;have e:q/z*z+q%z=q:=by rw[Nat.mul_comm];exact Nat.div_add_mod q z
        rw[e] at this;exact this
 . rename_i id ver start len;split at h
   . rename_i z m aL av Z;obtain⟨K,rfl⟩:=ef h;simp only[bL,beq_iff_eq,cZ] at K;obtain⟨⟨v,ar⟩,aI⟩:=K;have D:((m.drop start).take len).length=len:=by simp;omega
     cases g with
     |an _ _ _ _ l ah aJ _ aq _=>
      obtain⟨aw,n,W,ax,ay,aA,H,X,C⟩:=ae.dI id l _ ah Z;have t:l.sz=d:=J;rcases aq (by rw[W,ar]) with⟨aE,rfl,rfl⟩|⟨ai,L,of,au,rfl,aD,aH,aj⟩
      . exact⟨ag,0,[],by simp,⟨by simp,λi r a=>by simp at a,λi r j x a=>by simp at a⟩,λk _=>by simp[Builtin.firstCells]⟩
      . obtain⟨aB,c,T,C,Y,S⟩:=C ai;rw[D];let f:=(b8 (len*d)).map λq=>c.getD (start*d+q) Go.undef
        have aa:(start+len)*d<=c.size:=by rw[Y,t];exact hj _ L
        rw[gZ] at aa;have N:∀i r,((m.drop start).take len)[i]? =I r->i<len/\m[start+i]? =I r:=λi r a=>by
         have o:i<len:=by rw[<-D];exact(az.1 a).1
         rw[fT o,h2] at a;exact⟨o,a⟩
        refine⟨_,_,f,rfl,⟨by simp[f,D],λi r a=>?_,λi r j x a g=>?_⟩,λk G=>?_⟩
        . rw[<-t];exact H _ _ (N i r a).2
        . obtain⟨o,E⟩:=N i r a;have s:j<d:=by rw[<-t,<-H _ _ E];exact(az.1 g).1
          refine⟨X _ _ _ _ E g,?_⟩;have:f.getD (i*d+j) Go.undef=c.getD ((start+i)*l.sz+j) Go.undef:=by simp only[f,jc];rw[dK,List.getElem?_range (p_ o s)];simp only[jE,nz];rw[t,gZ,jg]
          rw[this];exact S _ _ _ _ E g
        . simp only[Builtin.firstCells];refine run_loadCells k ⟨l.b,of,ag⟩ (len*d) (λq=>c.getD (start*d+q) Go.undef) (λq al=>?_);rw[Addr.jI];refine G _ _ _ ?_;have aG:0<len:=by
           rcases Nat.eq_zero_or_pos len with n|n
           . subst n;simp at al
           . exact n
          rw[aj J,t,iy C];exact h9 J
   . cases h
 . cases h
def sK(i:Good w Γ M){x:V}{d:Value}(l:a_ w Γ x d){sz:Nat}{rows:List (List V)}(h:dg sz M x=I rows):
 ∃p cap c,d=.slice p rows.length cap/\kb w Γ sz rows c/\∀a,a.heap=w.heap->(Builtin.firstCells sz rows.length d).run P a=.ok c.toArray a:=by
 obtain⟨p,cap,c,e,f,g⟩:=KU (P:=P) i l h;exact⟨p,cap,c,e,f,λa k=>g a λb q u j=>by rw[pB (w:=w) (w':=a) (by rw[k])];exact j⟩
theorem Dv:∀{b:List (List V)}{eW:List UInt8},tx b=I eW->∃a:List Int,b=a.map (λn=>[.int .u8 n])/\eW=a.map (λn=>UInt8.ofNat n.toNat)
 |[],eW,h=>by simp only[tx,aC] at h;exact⟨[],rfl,h.symm⟩
 |r::i,eW,h=>by
  unfold tx at h;split at h
  . rename_i e;cases e
  . rename_i n j e;simp only[List.cons.injEq] at e;obtain⟨rfl,rfl⟩:=e;obtain⟨g,c,rfl⟩:=cL.1 h;obtain⟨a,d,f⟩:=Dv c;exact⟨n::a,by rw[d];rfl,by rw[f];rfl⟩
  . cases h
theorem Ix:∀(a:List Int)(r:ByteArray),a.foldl (λr n=>r.push (UInt8.ofNat n.toNat)) r=⟨r.data++(a.map (λn=>UInt8.ofNat n.toNat)).toArray⟩
 |[],r=>by simp
 |n::a,r=>by simp only[List.foldl_cons];rw[Ix a];simp[ByteArray.push]
def Rc(N:Good w Γ M)(ae:dB w Γ s a.tmps){k f e:TypeId}{x:Operand}{y:aA}(E:o.op=.convert k f x)(i:P.underlying k=I (.slice e))(A:P.underlying e=I (.int .u8))(z:P.underlying f=I .string)(T:bJ x=I y)
 (h:oG (aw s y) M=I v):gj P w Γ a o v:=by
 have S:=du ae T;unfold oG at h;split at h
 . rename_i X R;obtain⟨eW,K,rfl⟩:=cL.1 h;obtain⟨c,rfl,rfl⟩:=Dv K;obtain⟨p,cap,l,m,t,F⟩:=KU (P:=P) N S R;have W:l.length=c.length:=by have:=t.1;simpa using this
   have L:l=c.map (Value.int .u8):=by
    refine lp λj=>?_;by_cases C:j<c.length
    . have G:=(t.2.2 j [.int .u8 c[j]] 0 (.int .u8 c[j]) (by simp[C]) rfl).2;have g:=ih G;simp only[jV,g_,jc] at g;have O:j<l.length:=J;rw[cG O] at g⊢;simp only[nz] at g;rw[g,dK,cG C];rfl
    . rw[jd J,jd (by simp;omega)]
   subst L;refine⟨.string ⟨(c.map (λn=>UInt8.ofNat n.toNat)).toArray⟩,.str _,λd H=>?_⟩;have r:=F d λb q u i=>zs i H;rw[m] at r;cases p with
   |none=>
    have:c=[]:=by simpa[Builtin.firstCells] using r
    subst this;have B:ByteArray.empty=⟨#[]⟩:=rfl;simp[execOp,E,m,run_convert_bytes_string d k f e ag _ _ i A z,Conv.bytesToString,B]
   |some q=>
    have Q:(loadCells q (c.map (λn=>[V.int .u8 n])).length).run P d=.ok (c.map (Value.int .u8)).toArray d:=by simpa[Builtin.firstCells] using r
    have D:=run_bytesToString (P:=P) d q _ cap c Q;simp only[cz] at D;have B:ByteArray.empty.data=#[]:=rfl;simp[execOp,E,m,run_convert_bytes_string d k f e (I q) _ _ i A z,D,Ix]
 . cases h
def nextslicecap_le(a cap:Nat)(h:cap<a):Builtin.nextslicecap a cap<=2*a:=by
 have grow:∀(k c:Nat),c<=2*a->256<=a->Builtin.growBy a k c<=2*a:=by
  intro k;induction k with
  |zero=>intro c b _;simpa[Builtin.growBy] using b
  |succ k e=>
   intro c b d;simp only[Builtin.growBy];split
   . exact b
   . exact e _ J d
 unfold Builtin.nextslicecap;split
 . omega
 . split
   . omega
   . exact grow 4 cap J J
def Cf(a:Array Value)(n:Nat):(Builtin.zeroCells a n).size=n*a.size:=by simp[Builtin.zeroCells]
theorem yW{st e ai s:TypeId}{i:TypeInfo}{h:Value}{b:Value}{bf p:Option Addr}{sLen sCap n c:Nat}{r new:List Value}(m:P.underlying st=I (.slice e))(o:P.underlying ai=I (.slice s))(f:P.info? e=I i)(C:i.zero=I h)(G:0<i.bytes)
 (v:b=.slice p n c)(y:∀a,a.heap=w.heap->(Builtin.firstCells i.size sLen (.slice bf sLen sCap)).run P a=.ok r.toArray a)(l:∀a,a.heap=w.heap->(Builtin.firstCells i.size n b).run P a=.ok new.toArray a)
 (H:(sLen+n)*(2*i.bytes)<=2^48):
 if sLen+n<=sCap then
  (Builtin.append_ #[st,ai] st #[.slice bf sLen sCap,b]).run P w=(match bf with
    |some p=>((storeCells (p.add (sLen*i.size)) new).run P w).andThen λ_ D=>.ok (.slice bf (sLen+n) sCap) D
    |none=>.ok (.slice bf (sLen+n) sCap) w)
 else
  ∃g,sLen+n<=g/\(Builtin.append_ #[st,ai] st #[.slice bf sLen sCap,b]).run P w=
   .ok (.slice (I ⟨w.heap.size,0,ag⟩) (sLen+n) g) (w.drew.alloc (.cells (r.toArray++new.toArray++Builtin.zeroCells h.cells (g -(sLen+n))) e)):=by
 have k:d3 P e=I i.size:=by simp[d3,f]
 have j:∀a,(Builtin.lenOf b).run P a=.ok n a:=λa=>by subst v;simp[Builtin.lenOf]
 have B:∀a,(zeroValue e).run P a=.ok h a:=λa=>by simp[zeroValue,typeInfo,f,C]
 have A:∀a,(typeInfo e).run P a=.ok i a:=λa=>by simp[typeInfo,f]
 split
 . rename_i d;simp only[Builtin.append_];simp only[List.getElem?_toArray,hg,List.getElem?_cons_succ,Sem.run_bind,dC m,dC o,fP k,Result.andThen_ok,Sem.run_pure,gX,if_false,j,d,if_true,Bool.not_false,l w rfl];cases bf with
   |none=>simp
   |some q=>simp
 . rename_i d;have u:sCap<sLen+n:=J;have x:=nextslicecap_le (sLen+n) sCap u;have z:¬(2^48<Builtin.nextslicecap (sLen+n) sCap*i.bytes):=by
    have E:Builtin.nextslicecap (sLen+n) sCap*i.bytes<=2*(sLen+n)*i.bytes:=hj _ x;have F:2*(sLen+n)*i.bytes=(sLen+n)*(2*i.bytes):=by rw[Nat.mul_comm 2 (sLen+n),Nat.mul_assoc]
    omega
   have t:¬(i.bytes=0):=J;refine⟨(sLen+n)+w.tape w.drawn (.appendCap (sLen+n) sCap e)%(2^63 -(sLen+n)),J,?_⟩;simp only[Builtin.append_];simp only[List.getElem?_toArray,hg,List.getElem?_cons_succ,Sem.run_bind,dC m,dC o,fP k,Result.andThen_ok,Sem.run_pure,gX,if_false,j,d,Bool.not_false,if_true,A,t,or_false,and_false,gt_iff_lt,z];simp only[Sem.run_bind,run_choose,Question.forced,Question.cut,gX,if_false,Result.andThen_ok,run_askRoom,World.drew_eq,y w.drew rfl,l w.drew rfl,B,newRow,run_newObj,Sem.run_pure];simp;rfl
def kb.append{b:Nat}{d m:List (List V)}{c l:List Value}(p:kb w Γ b d c)(q:kb w Γ b m l):kb w Γ b (d++m) (c++l):=by
 obtain⟨g,k,c1⟩:=p;obtain⟨n,o,c2⟩:=q;refine⟨by simp[g,n,gZ],λi r a=>?_,λi r j x a h=>?_⟩
 . by_cases f:i<d.length
   . rw[et f] at a;exact k i r a
   . rw[fH J] at a;exact o _ r a
 . by_cases f:i<d.length
   . rw[et f] at a;have s:j<b:=by rw[<-k i r a];exact(az.1 h).1
     have u:i*b+j<c.length:=by rw[g];exact p_ f s
     have:=c1 _ _ _ _ a h;refine⟨this.1,?_⟩;rw[List.getD_eq_getElem?_getD,et u,<-List.getD_eq_getElem?_getD];exact this.2
   . rw[fH J] at a;have:=c2 _ _ _ _ a h;refine⟨this.1,?_⟩;have e:i*b+j=c.length+((i -d.length)*b+j):=by
      rw[g,<-jg,<-gZ,Nat.add_sub_cancel' J]
     have t:c.length<=i*b+j:=J;rw[List.getD_eq_getElem?_getD,fH t,<-List.getD_eq_getElem?_getD,show i*b+j -c.length=(i -d.length)*b+j by omega];exact this.2
def kb.ext{f:World}{g:Env}(k:Ext w Γ f g){e:Nat}{d:List (List V)}{a:List Value}(h:kb w Γ e d a):kb f g e d a:=
 ⟨h.1,h.2.1,λi r j x b c=>⟨(h.2.2 i r j x b c).1,(h.2.2 i r j x b c).2.ext k⟩⟩
def kb.head{a:Nat}{d:List (List V)}{b:List Value}(h:kb w Γ a d b)(cJ:Array Value):∀(i:Nat)(r:List V)(j:Nat)(x:V),d[i]? =I r->r[j]? =I x->x.ia=U/\a_ w Γ x ((b.toArray++cJ).getD (i*a+j) Go.undef):=by
 intro i r j x c f;have g:i<d.length:=(az.1 c).1;have k:j<a:=by rw[<-h.2.1 i r c];exact(az.1 f).1
 have l:i*a+j<b.length:=by rw[h.1];exact p_ g k
 have:=h.2.2 i r j x c f;refine⟨this.1,?_⟩;have e:(b.toArray++cJ).getD (i*a+j) Go.undef=b.getD (i*a+j) Go.undef:=by simp[gL,Array.getElem?_append,l]
 rw[e];exact this.2
def KG(p:Good w Γ M){f:Nat}{a:List (List V)}{b:List Value}(h:kb w Γ f a b)(cJ:Array Value)(T:TypeId){c:cg}(m:c≠.nil){cap:Nat}(o:c=.full->cap=a.length)(q:a.length<=cap):
 a_ (w.alloc (.cells (b.toArray++cJ) T)) (Γ.imm w.heap.size (b.toArray++cJ).size) (.slice a c) (.slice (I ⟨w.heap.size,0,ag⟩) a.length cap):=by
 have n:=Ext.qv p (b.toArray++cJ) T;have l:∀i j,i<a.length->j<f->i*f+j<(b.toArray++cJ).size:=λi j d e=>by have:=p_ d e;simp[h.1];omega
 refine .slice a c _ 0 f cap (λi j=>(b.toArray++cJ).getD (i*f+j) Go.undef) m o q h.2.1 (λi j d e=>?_) (λi j d e=>?_) (λi r j x g k=>(h.2.2 i r j x g k).1) (λi r j x g k=>(h.head cJ i r j x g k).2.ext n)
 . exact .inr ⟨rfl,by rw[dm];exact l i j d e⟩
 . rw[dm,iy (heap_alloc_new w _)];exact h9 (l i j d e)
theorem abv{a:List (List V)}{c:cg}{d:Value}(h:a_ w Γ (.slice a c) d):a_ w Γ (.slice a .bF) d:=by
 cases h with
 |hf _ f=>exact .hf _ (.inr rfl)
 |jv _ _ p=>exact .jv _ (by simp) p
 |slice _ _ b o m cap e f n g l ae i j k=>exact .slice a .bF b o m cap e (by simp) (by simp) g l ae i j k
def Env.ej(Γ:Env)(id:Nat)(l:Loc)(a:Nat->Nat->Prop):Env:={Γ with cf:=Γ.cf.set id l,S:=a}
def Ext.ej{f:World}{id:Nat}{l d:Loc}{c:Nat->Nat->Prop}(h:Γ.cf[id]? =I l)(j:l.box=ad)(q:l.ver<d.ver)
 (ae:∀b o,Γ.S b o->c b o/\jt f b o=jt w b o)(k:Below Γ.hl w f)(p:∀b o,b<Γ.hl->c b o->Γ.S b o):Ext w Γ f (Γ.ej id d c) where
 s:=ae
 cf i m a:=by
  by_cases g:id=i
  . subst g;rw[h] at a;simp only[aC] at a;subst a;have n:id<Γ.cf.length:=(az.1 h).1;exact⟨d,by simp only[Env.ej];rw[bY n],J,λe=>J,λe=>by rw[j] at e;cases e⟩
  . exact⟨m,by simp only[Env.ej];rw[bo g];exact a,bk _,λ_=>rfl,λ_=>rfl⟩
 ek:=rfl
 below:=k
 nr:=p
def Good.ej(e:Good w Γ M){n:World}{id:Nat}{l d:Loc}{f:Nat->Nat->Prop}(K:Γ.cf[id]? =I l)(s:Ext w Γ n (Γ.ej id d f))(H:∀k,k≠d.b->k<w.heap.size->n.heap[k]? =w.heap[k]?)
 (p:∀(i:Nat)(m:Loc),i≠id->Γ.cf[i]? =I m->m.live=U->m.b≠d.b/\∀o,f m.b o->Γ.S m.b o)(G:Γ.hl<=d.b)(N:∀b o,f b o->∃v,n.cell? ⟨b,o,ag⟩=I v)
 {B:au}(F:pn n (Γ.ej id d f) d B):Good n (Γ.ej id d f) (M.set id B):=by
 have z:id<Γ.cf.length:=(az.1 K).1;have get:∀i m,(Γ.ej id d f).cf[i]? =I m->(i=id/\m=d)∨(i≠id/\Γ.cf[i]? =I m):=by
  intro i m a;simp only[Env.ej] at a;by_cases c:id=i
  . subst c;rw[bY z] at a;simp only[aC] at a;exact .inl ⟨rfl,a.symm⟩
  . rw[bo c] at a;exact .inr ⟨cA c,a⟩
 refine⟨by simp[Env.ej,e.len],λi m C a h=>?_,λi m a=>?_,λi j t u D E gz A r=>?_,N,fJ e.bf s.below.size,e.rn s⟩
 . rcases get i m a with⟨rfl,rfl⟩|⟨c,g⟩
   . rw[bY (by rw[<-e.len];exact z)] at h;simp only[aC] at h;subst h;exact F
   . rw[bo (cA c)] at h;exact(e.dI i m C g h).cj s (λq=>H _ (p i m c g q).1 (e.j0 g q)) (λq o L=>(p i m c g q).2 o L)
 . rcases get i m a with⟨_,rfl⟩|⟨_,g⟩
   . exact G
   . exact e.ek i m g
 . rcases get i t D with⟨rfl,rfl⟩|⟨c,x⟩<;>rcases get j u E with⟨rfl,rfl⟩|⟨J,y⟩
   . rfl
   . exact aJ r.symm (p j u J y A).1
   . exact aJ r (p i t c x gz).1
   . exact e.inj i j t u x y gz A r
end
section
variable{P:Program}{w:World}{Γ:Env}{M:Mem}{s:av}{a:Act}{o:Oper}{v:V}
theorem acJ{a:List (List V)}{c:cg}{d:Value}(h:a_ w Γ (.slice a c) d)(e:c=.nil∨c=.full):∃p,d=.slice p a.length a.length:=by
 cases h with
 |hf _ j=>exact⟨ag,rfl⟩
 |jv=>exact⟨_,rfl⟩
 |slice _ _ b of k cap i f g=>
  rcases e with rfl|rfl
  . exact aJ rfl f
  . rw[g rfl];exact⟨_,rfl⟩
theorem Ql(f:Good w Γ M){t ai e K:TypeId}{i:TypeInfo}{u E z:Value}{a b:List (List V)}{c:cg}{imm:Bool}{x:V}{y:Mem}(ah:P.underlying t=I (.slice e))(am:P.underlying ai=I (.slice K))(Y:P.info? e=I i)(ap:i.zero=I u)(ao:u.cells.size=i.size)(T:0<i.bytes)
 (k:a_ w Γ (.slice a c) E)(ar:a_ w Γ x z)(al:dg i.size M x=I b)(h:eU imm i.size i.bytes (.slice a c) b M=I (v,y)):
 ∃F s D,(Builtin.append_ #[t,ai] t #[E,z]).run P w=.ok F s/\a_ s D v F/\Good s D y/\Ext w Γ s D:=by
 simp only[eU] at h;cases m:(dP i.size a&&(decide (c=.nil)||decide (c=.full))&&decide ((a.length+b.length)*(2*i.bytes)<=2^48)) with
 |false=>simp[m] at h
 |true=>
  simp only[m,bi] at h;simp only[bL,ln,cZ] at m;obtain⟨⟨X,W⟩,ae⟩:=m;obtain⟨p,A⟩:=acJ k W;obtain⟨aw,c1,C,au,aq,G⟩:=sK (P:=P) f k (sz:=i.size) (rows:=a) (by simp[dg,X]);obtain⟨ay,c2,new,L,H,O⟩:=sK (P:=P) f ar al;rw[A] at G;have d:=yW (P:=P) (w:=w) (bf:=p) (sCap:=a.length) ah am Y ap T L G O ae;rw[A];by_cases B:b=[]
  . subst B;rw[aF (by simp)] at d;have Z:new=[]:=lY.1 (by rw[H.1];simp);subst Z;have af:(Builtin.append_ #[t,ai] t #[.slice p a.length a.length,z]).run P w=.ok (.slice p a.length a.length) w:=by
     rw[d];cases p<;>simp[storeCells]
    rw[A] at k;refine⟨_,w,Γ,af,?_⟩;cases imm with
    |true=>simp only[ez,aC,dh] at h;obtain⟨rfl,rfl⟩:=h;exact⟨abv k,f,Ext.refl _ _⟩
    |false=>simp only[aC,dh] at h;obtain⟨rfl,rfl⟩:=h;exact⟨k,f,Ext.refl _ _⟩
  . have av:0<b.length:=List.length_pos_iff.2 B;rw[ax J] at d;obtain⟨q,l,d⟩:=d;have o:=aq.append H;have N:C.toArray++new.toArray=(C++new).toArray:=by simp
    rw[N] at d;have g:=f.drew;have n:=Ext.drew w Γ;cases imm with
    |true=>simp only[aC,dh] at h;obtain⟨rfl,rfl⟩:=h;have ab:=KG g (o.ext n) (Builtin.zeroCells u.cells (q -(a.length+b.length))) e (c:=.bF) (by simp) (cap:=q) (by simp) (by simpa using l);refine⟨_,_,_,d,?_,g.qv _ e,n.trans (Ext.qv g _ e)⟩;simpa using ab
    |false=>
     have S:v=.an M.length 0 0 (a.length+b.length)/\y=M++[.aj i.size (a++b) 0 0]:=by
      cases b with
      |nil=>exact aJ rfl B
      |cons r az=>simp only[aC,dh] at h;exact⟨h.1.symm,h.2.symm⟩
     obtain⟨rfl,rfl⟩:=S;obtain⟨Q,R⟩:=g.C5 ((C++new).toArray++Builtin.zeroCells u.cells (q -(a.length+b.length))) e i.size q (a++b)
      (by simp only[Array.size_append,Cf,ao,List.size_toArray,o.1,b0];rw[<-gZ,Nat.add_sub_cancel' l]) (by simpa using l) o.2.1 (λi r j x aa ak=>(o.ext n).head _ i r j x aa ak);exact⟨_,_,_,d,Bj g l,Q,n.trans R⟩
def aaF{x:V}{a:Value}(h:a_ w Γ x a)(b:x.ia=U):a.oneCell'=U:=by cases h<;>first|rfl|(simp[V.ia] at b;done)
def kb.one{a:Nat}{b:List (List V)}{f:List Value}(h:kb w Γ a b f):∀d∈f,d.oneCell'=U:=by
 intro d m;obtain⟨q,al,rfl⟩:=List.getElem_of_mem m;have j:q<b.length*a:=by rw[<-h.1];exact al
 have k:0<a:=by
  rcases Nat.eq_zero_or_pos a with c|c
  . subst c;simp at j
  . exact c
 have i:q/a<b.length:=by rw[Nat.div_lt_iff_lt_mul k];exact j
 have n:q%a<(b[q/a]).length:=by rw[h.2.1 (q/a) _ (cG i)];exact Nat.mod_lt _ k
 obtain⟨l,g⟩:=h.2.2 (q/a) _ (q%a) _ (cG i) (cG n);have e:q/a*a+q%a=q:=by rw[Nat.mul_comm];exact Nat.div_add_mod q a
 rw[e] at g;have:=aaF g l;simpa[jc,al] using this
def Ra(a:Good w Γ M){id ver v:Nat}{l:Loc}{G:Nat}{u:List (List V)}(g:Γ.cf[id]? =I l)(P:M[id]? =I (.aj G u ver v)):
 Good w (Γ.ej id {l with ver:=ver+1} Γ.S) (M.set id (.aj G u (ver+1) v))/\Ext w Γ w (Γ.ej id {l with ver:=ver+1} Γ.S):=by
 obtain⟨p,y,ab,z,A,q,B,C,s⟩:=a.dI id l _ g P;have n:Ext w Γ w (Γ.ej id {l with ver:=ver+1} Γ.S):=Ext.ej g p (by show l.ver<ver+1;omega) (λ_ _ h=>⟨h,rfl⟩) (Below.refl _ _) (λ_ _ _ h=>h);by_cases d:l.live=U
 . refine⟨a.ej g n (λ_ _ _=>rfl) (λi m f b o=>⟨λe=>f (a.inj i id m l b g o d e),λ_ h=>h⟩) (a.ek id l g) a.hx ⟨p,y,rfl,z,A,q,B,C,λo=>?_⟩,n⟩;obtain⟨Q,c,T,s,O,L⟩:=s o;exact⟨Q,c,T,s,O,λi r j x W Y=>(L i r j x W Y).ext n⟩
 . have d:l.live=ad:=by simpa using d
   refine⟨?_,n⟩;have X:u=[]:=lY.1 (by have:=q d;omega);subst X;have D:id<Γ.cf.length:=(az.1 g).1;have get:∀i m,(Γ.ej id {l with ver:=ver+1} Γ.S).cf[i]? =I m->(i=id/\m={l with ver:=ver+1})∨(i≠id/\Γ.cf[i]? =I m):=by
    intro i m b;simp only[Env.ej] at b;by_cases f:id=i
    . subst f;rw[bY D] at b;simp only[aC] at b;exact .inl ⟨rfl,b.symm⟩
    . rw[bo f] at b;exact .inr ⟨cA f,b⟩
   refine⟨by simp[Env.ej,a.len],λi m J b k=>?_,λi m b=>?_,λi j E F Z aa gz H R=>?_,a.hx,a.bf,a.mH⟩
   . rcases get i m b with⟨rfl,rfl⟩|⟨f,t⟩
     . rw[bY (by rw[<-a.len];exact D)] at k;simp only[aC] at k;subst k;exact⟨p,y,rfl,z,A,q,B,C,λo=>by rw[show l.live=U from o] at d;cases d⟩
     . rw[bo (cA f)] at k;exact(a.dI i m J t k).cj n (λ_=>rfl) (λ_ _ h=>h)
   . rcases get i m b with⟨_,rfl⟩|⟨_,t⟩
     . exact a.ek id l g
     . exact a.ek i m t
   . rcases get i E Z with⟨rfl,rfl⟩|⟨f,K⟩<;>rcases get j F aa with⟨rfl,rfl⟩|⟨ae,N⟩
     . rfl
     . rw[show l.live=U from gz] at d;cases d
     . rw[show l.live=U from H] at d;cases d
     . exact a.inj i j E F K N gz H R
theorem Ml(n:Good w Γ M){id ver:Nat}{cells:List V}{f:Value}(k:M[id]? =I (.b7 cells ver))(A:a_ w Γ (.an id ver 0 cells.length) f):
 ∃(p:Option Addr)(cap:Nat)(a:List Value),f=.slice p cells.length cap/\a.length=cells.length/\(∀(j:Nat)(x:V),cells[j]? =I x->a_ w Γ x (a.getD j Go.undef))/\
  ∀d,d.heap=w.heap->(Builtin.firstCells 1 cells.length f).run P d=.ok a.toArray d:=by
 cases A with
 |an _ _ _ _ l r Q _ v _=>
  obtain⟨D,C,i,E,F,g⟩:=n.dI id l _ r k;rcases v i with⟨N,z,rfl⟩|⟨s,K,of,B,rfl,L,O,t⟩
  . have m:cells=[]:=lY.1 z;subst m;exact⟨ag,0,[],rfl,rfl,λj x e=>by simp at e,λd _=>by simp[Builtin.firstCells]⟩
  . obtain⟨H,c,T,g,G,h⟩:=g s;let a:=(b8 cells.length).map λq=>c.getD q Go.undef
    refine⟨_,_,a,rfl,by simp[a],λj x e=>?_,λd y=>?_⟩
    . have o:=(az.1 e).1;have:a.getD j Go.undef=c.getD j Go.undef:=by
       simp only[a,jc];rw[dK,List.getElem?_range o];simp
      rw[this];exact h j x e
    . simp only[Builtin.firstCells,jV];refine run_loadCells d ⟨l.b,of,ag⟩ cells.length (λq=>c.getD q Go.undef) (λq al=>?_);rw[Addr.jI,pB (w:=w) (w':=d) (by rw[y])];have u:=t J;rw[u,Nat.zero_mul,dm,iy g];exact h9 J
theorem Dc(a:Good w Γ M){t ai e aB:TypeId}{i:TypeInfo}{aa ah E:Value}{id ver:Nat}{cells:List V}{D:V}{af:Mem}(a0:P.underlying t=I (.slice e))(a2:P.underlying ai=I (.slice aB))(aW:P.info? e=I i)(a4:i.zero=I aa)(a3:aa.cells.size=i.size)(aS:0<i.bytes)
 (am:M[id]? =I (.b7 cells ver))(R:i.size=1)(Z:a_ w Γ (.an id ver 0 cells.length) ah)(a1:∃(aA:Option Addr)(c2:Nat)(new:List Value),E=.slice aA 1 c2/\new.length=1/\(∀d∈new,d.oneCell'=U)/\a_ w Γ D (new.getD 0 Go.undef)/\∀g,g.heap=w.heap->(Builtin.firstCells i.size 1 E).run P g=.ok new.toArray g)(aZ:(cells.length+1)*(2*i.bytes)<=2^48)
 (f:v=.an id (ver+1) 0 (cells.length+1))(aR:af=M.set id (.b7 (cells++[D]) (ver+1))):
 ∃aj g ab,(Builtin.append_ #[t,ai] t #[ah,E]).run P w=.ok aj g/\a_ g ab v aj/\Good g ab af/\Ext w Γ g ab:=by
 subst f aR;obtain⟨a7,c1,x,F,a5,a6,ak⟩:=Ml (P:=P) a am Z;obtain⟨aA,c2,new,aC,bi,aY,aw,aE⟩:=a1;rw[F] at ak;have r:=yW (P:=P) (w:=w) (bf:=a7) (sCap:=c1) (sLen:=cells.length) (n:=1) a0 a2 aW a4 aS aC (by rw[R];exact ak) aE aZ;rw[F];have aD:x.toArray++new.toArray=(x++new).toArray:=by simp
 rw[F] at Z;have ay:∀(q:Nat)(z:V),(cells++[D])[q]? =I z->(q<cells.length/\cells[q]? =I z)∨(q=cells.length/\z=D):=λq z j=>by
  by_cases al:q<cells.length
  . rw[et al] at j;exact .inl ⟨al,j⟩
  . rw[fH J] at j;have:q -cells.length=0:=by have:=(az.1 j).1;simp at this;omega
    rw[this] at j;simp at j;exact .inr ⟨J,j.symm⟩
 cases Z with
 |an _ _ _ _ l p bh _ Q _=>
  obtain⟨H,aN,y,ba,aP,K⟩:=a.dI id l _ p am;have Q:=Q y;have av:id<Γ.cf.length:=(az.1 p).1;by_cases L:cells.length+1<=c1
  . rw[aF L] at r;rcases Q with⟨bc,bj,f⟩|⟨N,aq,of,a8,f,aT,bg,B⟩
    . simp only[Value.slice.injEq] at f;omega
    . simp only[Value.slice.injEq] at f;obtain⟨rfl,_,rfl⟩:=f;have B:=B J;simp only[Nat.zero_mul] at B;subst B;simp only[Addr.jI,dm,R,jV] at r;obtain⟨ao,c,T,K,aQ,aO⟩:=K N;obtain⟨g,aG,aI,G,a9,aK,aL,aM⟩:=sR (P:=P) new c cells.length 0 w K J aY;have o:Ext w Γ g (Γ.ej id {l with ver:=l.ver+1} Γ.S):=Ext.ej p H (by show l.ver<l.ver+1;omega) (λb q ae=>⟨ae,by
       by_cases ap:b=l.b
       . subst ap;exact aJ ae (ao q)
       . exact qb (G b ap)⟩) ⟨aK,aL,aM,J,λk A=>G k (by have:=a.ek id l p;omega)⟩ (λ_ _ _ h=>h);have aV:(Γ.ej id {l with ver:=l.ver+1} Γ.S).cf[id]? =I {l with ver:=l.ver+1}:=by simp only[Env.ej];rw[bY av]
      refine⟨.slice (I ⟨l.b,0,ag⟩) (cells.length+1) c1,g,Γ.ej id {l with ver:=l.ver+1} Γ.S,?_,?_,?_,o⟩
      . rw[r];have aH:(storeCells ⟨l.b,cells.length,ag⟩ new).run P w=.ok () g:=aG;rw[aH];simp
      . exact .an _ _ _ _ {l with ver:=l.ver+1} aV (by simp[y]) _ (λ_=>.inr ⟨N,by show 0+(cells.length+1)<=l.cap;omega,0,c1,rfl,aT,L,λ_=>by simp⟩) rfl
      . rw[<-y];refine a.ej p o (λk A _=>G k A) (λq m al O f=>⟨λe=>al (a.inj q id m l O p f N e),λ_ h=>h⟩) (a.ek id l p) (λb q ae=>?_) ⟨H,aN,rfl,by simp;omega,aP,λ_=>⟨ao,_,T,aI,by rw[pg];exact aQ,λq z j=>?_⟩⟩
        . obtain⟨u,W⟩:=a.hx b q ae;exact⟨u,(o.ij b q ae).2.trans W⟩
        . rw[n8 _ _ _ _ J];rcases ay q z j with⟨al,X⟩|⟨rfl,rfl⟩
          . rw[ax J];exact(aO q z X).ext o
          . rw[aF J,show cells.length -(cells.length+0)=0 by omega];exact aw.ext o
  . rw[ax L] at r;obtain⟨s,aq,r⟩:=r;rw[aD] at r;have be:=a.drew;have bd:=Ext.drew w Γ;generalize ar:(x++new).toArray++Builtin.zeroCells aa.cells (s -(cells.length+1))=C at r;have aU:C.size=s:=by
     rw[<-ar];simp only[Array.size_append,Cf,a3,R,List.size_toArray,b0];omega
    let Y:Loc:=⟨w.heap.size,ad,U,1,s,l.ver+1⟩
    have o:Ext w Γ (w.drew.alloc (.cells C e)) (Γ.ej id Y Γ.S):=Ext.ej p H (by show l.ver<l.ver+1;omega) (λb q ae=>⟨ae,qb (kX w.drew _ (a.np ae))⟩) ((Below.refl _ _).drew.alloc a.bf _) (λb q bb ae=>ae);refine⟨_,_,Γ.ej id Y Γ.S,r,?_,?_,o⟩
    . exact .an _ _ _ _ Y (by simp only[Env.ej];rw[bY av]) (by show ver+1<=l.ver+1;omega) _ (λ_=>.inr ⟨rfl,by show 0+_<=s;omega,0,s,rfl,by show 0+s<=s;omega,J,λ_=>by simp⟩) rfl
    . rw[<-y];refine a.ej p o (λk _ A=>kX w.drew _ A) (λq m al O f=>⟨λe=>?_,λbk aX=>aX⟩) (by show Γ.hl<=w.heap.size;exact a.bf) (λb q ae=>?_) ⟨rfl,rfl,rfl,by simpa using aq,(λf=>by cases f),λ_=>⟨λq ae=>a.q1 q ae,C,e,heap_alloc_new w.drew _,aU,λq z j=>?_⟩⟩
      . have:=a.j0 O f;rw[show m.b=w.heap.size from e] at this;omega
      . obtain⟨u,W⟩:=a.hx b q ae;exact⟨u,(pB (kX w.drew _ (a.np ae))).trans W⟩
      . have au:∀q,q<cells.length+1->C.getD q Go.undef=(x++new).getD q Go.undef:=λq al=>by
         rw[<-ar,gL,Array.getElem?_append_left (by simp;omega)];simp[jc]
        rcases ay q z j with⟨al,X⟩|⟨rfl,rfl⟩
        . rw[au q J];have:=a6 q z X;rw[jc,et J];exact(show a_ w Γ z (x[q]?.getD Go.undef) from this).ext o
        . rw[au _ J,jc,fH J,a5,hA];have:=aw;simp only[jc] at this;exact this.ext o
def Good.cut{id z ver g len:Nat}{e:List (List V)}(a:Good w Γ M)(l:M[id]? =I (.aj z e ver g))(G:g<=len)(H:len<=e.length):Good w Γ (M.set id (.aj z (e.take len) ver g)):=by
 refine⟨by rw[cW];exact a.len,λi m B n d=>?_,a.ek,a.inj,a.hx,a.bf,a.mH⟩;have C:id<M.length:=(az.1 l).1;have get:∀(i:Nat)(r:List V),(e.take len)[i]? =I r->e[i]? =I r:=λi r b=>by
  have f:i<len:=by have:=(az.1 b).1;rw[fh] at this;omega
  rwa [fT f] at b
 by_cases f:id=i
 . subst f;rw[bY C] at d;simp only[aC] at d;subst d;obtain⟨p,o,s,E,F,t,u,v,h⟩:=a.dI id m _ n l;refine⟨p,o,s,by rw[fh];omega,by rw[fh];omega,t,λi r b=>u i r (get i r b),λi r j x b k=>v i r j x (get i r b) k,λD=>?_⟩;obtain⟨A,c,T,h,y,q⟩:=h D;exact⟨A,c,T,h,y,λi r j x b k=>q i r j x (get i r b) k⟩
 . rw[bo f] at d;exact a.dI i m B n d
theorem Db(a:Good w Γ M){t ai e aP:TypeId}{i:TypeInfo}{Z aA O:Value}{xr rows:List (List V)}{id N E:Nat}(bc:P.underlying t=I (.slice e))(bd:P.underlying ai=I (.slice aP))(a5:P.info? e=I i)(bh:i.zero=I Z)(bg:Z.cells.size=i.size)(a1:0<i.bytes)
 (ak:M[id]? =I (.aj i.size rows N E))(ba:(rows.length+xr.length)*(2*i.bytes)<=2^48)(av:a_ w Γ (.an id N 0 rows.length) aA)
 (n:∃p cap aC,O=.slice p xr.length cap/\kb w Γ i.size xr aC/\∀g,g.heap=w.heap->(Builtin.firstCells i.size xr.length O).run P g=.ok aC.toArray g):
 ∃aB g aw,(Builtin.append_ #[t,ai] t #[aA,O]).run P w=.ok aB g/\a_ g aw (.an id (N+1) 0 (rows.length+xr.length)) aB/\Good g aw (M.set id (.aj i.size (rows++xr) (N+1) E))/\Ext w Γ g aw:=by
 obtain⟨Y,c1,au,aa,bi,aD⟩:=sK (P:=P) a av (sz:=i.size) (rows:=rows) (by simp[dg,ak]);obtain⟨bv,c2,new,aQ,D,aS⟩:=n;rw[aa] at aD;have s:=yW (P:=P) (w:=w) (bf:=Y) (sCap:=c1) bc bd a5 bh a1 aQ aD aS ba;rw[aa];have C:=bi.append D;have aR:au.toArray++new.toArray=(au++new).toArray:=by simp
 rw[aa] at av;cases av with
 |an _ _ _ _ l v bs _ L _=>
  obtain⟨ah,A,B,aY,bk,aZ,a0,bl,G⟩:=a.dI id l _ v ak;have L:=L B;have ao:id<Γ.cf.length:=(az.1 v).1;by_cases aN:xr=[]
  . subst aN;have a7:new=[]:=lY.1 (by rw[D.1];simp);subst a7;have H:rows.length+([]:List (List V)).length<=c1:=by
     rcases L with⟨a3,be,f⟩|⟨W,Q,of,aO,f,aK,a6,K⟩
     . simp only[Value.slice.injEq] at f;simp;omega
     . simp only[Value.slice.injEq] at f;simp;omega
    rw[aF H] at s;have bb:(Builtin.append_ #[t,ai] t #[.slice Y rows.length c1,O]).run P w=.ok (.slice Y rows.length c1) w:=by rw[s];cases Y<;>simp[storeCells]
    obtain⟨ab,F⟩:=Ra a v ak;simp only[ez,eu,g_];refine⟨_,w,_,bb,?_,ab,F⟩;exact .an _ _ _ _ {l with ver:=l.ver+1} (by simp only[Env.ej];rw[B,bY ao]) (by simp[B]) _ (λ_=>L) rfl
  . have bt:0<xr.length:=List.length_pos_iff.2 aN;by_cases H:rows.length+xr.length<=c1
    . rw[aF H] at s;rcases L with⟨a3,be,f⟩|⟨W,Q,of,aO,f,aK,a6,K⟩
      . simp only[Value.slice.injEq] at f;omega
      . simp only[Value.slice.injEq] at f;obtain⟨rfl,_,rfl⟩:=f;have K:=K J;simp only[Nat.zero_mul] at K;subst K;simp only[Addr.jI,dm] at s;obtain⟨aG,c,T,G,aE,aX⟩:=G W;have a8:new.length=xr.length*i.size:=D.1;have bm:rows.length*i.size+new.length<=c.size:=by
         rw[a8,aE,A,<-gZ];exact hj _ J
        obtain⟨g,ab,F,af,bj,aU,aV,aW⟩:=sR (P:=P) new c (rows.length*i.size) 0 w G J D.one;have bo:E*l.sz<=rows.length*i.size:=by rw[A];exact hj _ aY
        have y:Ext w Γ g (Γ.ej id {l with ver:=l.ver+1} Γ.S):=Ext.ej v ah (by show l.ver<l.ver+1;omega) (λb q ae=>⟨ae,by
         by_cases aH:b=l.b
         . subst aH;have al:=(aG q).1 ae;refine Bv G F ?_;rw[iy F,iy G];have aM:q<c.size:=J;rw[h9 (by rw[pg];exact aM),h9 aM,n8 _ _ _ _ J,ax J]
         . exact qb (af b aH)⟩) ⟨aU,aV,aW,J,λk R=>af k (by have:=a.ek id l v;omega)⟩ (λ_ _ _ h=>h);have a4:(Γ.ej id {l with ver:=l.ver+1} Γ.S).cf[id]? =I {l with ver:=l.ver+1}:=by simp only[Env.ej];rw[bY ao]
        refine⟨.slice (I ⟨l.b,0,ag⟩) (rows.length+xr.length) c1,g,Γ.ej id {l with ver:=l.ver+1} Γ.S,?_,?_,?_,y⟩
        . rw[s];have aT:(storeCells ⟨l.b,rows.length*i.size,ag⟩ new).run P w=.ok () g:=ab;rw[aT];simp
        . exact .an _ _ _ _ {l with ver:=l.ver+1} a4 (by simp[B]) _ (λ_=>.inr ⟨W,by show 0+(rows.length+xr.length)<=l.cap;omega,0,c1,rfl,aK,H,λ_=>by simp⟩) rfl
        . rw[<-B];refine a.ej v y (λk R _=>af k R) (λq m al X f=>⟨λe=>al (a.inj q id m l X v f W e),λ_ h=>h⟩) (a.ek id l v) (λb q ae=>?_) ⟨ah,A,rfl,by simp;omega,by simp;omega,aZ,λq r d=>by rw[A];exact C.2.1 q r d,λq r j x d n=>(C.2.2 q r j x d n).1,λ_=>⟨aG,_,T,F,by rw[pg];exact aE,λq r j x d n=>?_⟩⟩
          . obtain⟨u,aq⟩:=a.hx b q ae;exact⟨u,(y.ij b q ae).2.trans aq⟩
          . show a_ g _ x ((n7 c (rows.length*i.size+0) new).getD (q*l.sz+j) Go.undef);rw[show q*l.sz+j=q*i.size+j by rw[A],n8 _ _ _ _ J];by_cases al:q<rows.length
            . rw[et al] at d;have am:j<i.size:=by rw[<-A,<-a0 q r d];exact(az.1 n).1
              have:=p_ al am;rw[ax J];have:=aX q r j x d n;rw[show q*l.sz+j=q*i.size+j by rw[A]] at this;exact this.ext y
            . rw[fH J] at d;have a9:q -rows.length<xr.length:=(az.1 d).1;have am:j<i.size:=by rw[<-D.2.1 _ r d];exact(az.1 n).1
              have br:=p_ a9 am;have e:q*i.size+j=rows.length*i.size+((q -rows.length)*i.size+j):=by rw[<-jg,<-gZ,Nat.add_sub_cancel' J]
              rw[aF J,show q*i.size+j -(rows.length*i.size+0)=(q -rows.length)*i.size+j by omega];exact(D.2.2 _ _ _ _ d n).2.ext y
    . rw[ax H] at s;obtain⟨z,Q,s⟩:=s;rw[aR] at s;have bq:=a.drew;have bn:=Ext.drew w Γ;generalize aI:(au++new).toArray++Builtin.zeroCells Z.cells (z -(rows.length+xr.length))=cells at s;have aL:cells.size=z*i.size:=by
       rw[<-aI];simp only[Array.size_append,Cf,bg,List.size_toArray,C.1,b0];rw[<-gZ,Nat.add_sub_cancel' Q]
      let ar:Loc:=⟨w.heap.size,ad,U,i.size,z,l.ver+1⟩
      let ay:Nat->Nat->Prop:=λb q=>Γ.S b q∨(b=w.heap.size/\q<E*i.size)
      have bp:E*i.size<=cells.size:=by rw[aL];exact hj _ J
      have y:Ext w Γ (w.drew.alloc (.cells cells e)) (Γ.ej id ar ay):=Ext.ej v ah (by show l.ver<l.ver+1;omega) (λb q ae=>⟨.inl ae,qb (kX w.drew _ (a.np ae))⟩) ((Below.refl _ _).drew.alloc a.bf _) (λb q a2 ae=>by
       rcases ae with ae|⟨rfl,_⟩
       . exact ae
       . have:=a.bf;omega);refine⟨_,_,Γ.ej id ar ay,s,?_,?_,y⟩
      . exact .an _ _ _ _ ar (by simp only[Env.ej];rw[bY ao]) (by show N+1<=l.ver+1;omega) _ (λ_=>.inr ⟨rfl,by show 0+_<=z;omega,0,z,rfl,by show 0+z<=z;omega,J,λ_=>by simp⟩) rfl
      . rw[<-B];refine a.ej v y (λk _ R=>kX w.drew _ R) (λq m al X f=>⟨λe=>?_,λbu ap=>?_⟩) (by show Γ.hl<=w.heap.size;exact a.bf) (λb q ae=>?_) ⟨rfl,rfl,rfl,by simp;omega,by simpa using Q,(λf=>by cases f),C.2.1,λq r j x d n=>(C.2.2 q r j x d n).1,λ_=>⟨λq=>⟨λae=>?_,λae=>.inr ⟨rfl,ae⟩⟩,cells,e,heap_alloc_new w.drew _,aL,λq r j x d n=>?_⟩⟩
        . have:=a.j0 X f;rw[show m.b=w.heap.size from e] at this;omega
        . rcases ap with ap|⟨a2,_⟩
          . exact ap
          . have:=a.j0 X f;omega
        . rcases ae with ae|⟨rfl,ae⟩
          . obtain⟨u,aq⟩:=a.hx b q ae;exact⟨u,(pB (kX w.drew _ (a.np ae))).trans aq⟩
          . exact⟨cells.getD q Go.undef,(iy (o:=q) (heap_alloc_new w.drew (.cells cells e))).trans (h9 J)⟩
        . rcases ae with ae|⟨_,ae⟩
          . exact aJ ae (a.q1 q)
          . exact ae
        . have:=(C.head (Builtin.zeroCells Z.cells (z -(rows.length+xr.length))) q r j x d n).2;rw[aI] at this;exact this.ext y
def Qi(d:Good w Γ M){t ai e S:TypeId}{i:TypeInfo}{R F H:Value}{p:List (List V)}{id ver start len:Nat}{imm:Bool}{x:V}{E:Mem}(u:P.underlying t=I (.slice e))(y:P.underlying ai=I (.slice S))(s:P.info? e=I i)(B:i.zero=I R)(A:R.cells.size=i.size)(r:0<i.bytes)
 (C:a_ w Γ (.an id ver start len) F)(N:a_ w Γ x H)(L:dg i.size M x=I p)(h:eU imm i.size i.bytes (.an id ver start len) p M=I (v,E)):
 ∃G o D,(Builtin.append_ #[t,ai] t #[F,H]).run P w=.ok G o/\a_ o D v G/\Good o D E/\Ext w Γ o D:=by
 have aa:start=0:=by
  cases start with
  |zero=>rfl
  |succ k=>simp[eU] at h
 subst aa;simp only[eU] at h;split at h
 . rename_i z n O ae b;have J:=sK (P:=P) d N L;cases l:(z==i.size&&O==ver&&len==n.length&&decide ((n.length+p.length)*(2*i.bytes)<=2^48)) with
   |true=>rw[l] at h;simp only[bi,aC,dh] at h;obtain⟨rfl,rfl⟩:=h;simp only[bL,beq_iff_eq,cZ] at l;obtain⟨⟨⟨a,j⟩,f⟩,g⟩:=l;subst j a f;exact Db d u y s B A r b g C J
   |false=>
    rw[l] at h;simp only[eE] at h;obtain⟨c,h⟩:=ef h;simp only[dh] at h;obtain⟨rfl,rfl⟩:=h;simp only[bL,beq_iff_eq,cZ] at c;obtain⟨⟨⟨⟨a,j⟩,f⟩,X⟩,g⟩:=c;subst j a;have Y:id<M.length:=(az.1 b).1;have q:(n.take len).length=len:=by rw[fh];omega
    have:=Db (xr:=p) (rows:=n.take len) (d.cut b X f) u y s B A r (by rw[bY Y]) (by rw[q];exact g) (by rw[q];exact C) J;rw[h3,q] at this;exact this
 . rename_i cells O b;split at h
   . rename_i Q;obtain⟨c,h⟩:=ef h;simp only[dh] at h;obtain⟨rfl,rfl⟩:=h;simp only[bL,beq_iff_eq,cZ] at c;obtain⟨⟨⟨a,j⟩,f⟩,g⟩:=c;subst j f;obtain⟨ab,c2,new,T,m,W⟩:=sK (P:=P) d N L;have Z:=m.one;rw[a] at m;have K:=(m.2.2 0 [Q] 0 Q rfl rfl).2;simp only[Nat.zero_mul,g_] at K;exact Dc d u y s B A r b a C ⟨ab,c2,new,T,by have:=m.1;simpa using this,Z,K,W⟩ g rfl rfl
   . cases h
 . cases h
def Qk(o:Good w Γ M){t ai e A:TypeId}{i:TypeInfo}{u k m:Value}{a x s v:V}{j:Mem}(O:P.underlying t=I (.slice e))(T:P.underlying ai=I (.slice A))(H:P.info? e=I i)(X:i.zero=I u)(W:u.cells.size=i.size)(F:0<i.bytes)
 (Z:a_ w Γ a k)(aa:a_ w Γ x m)(c:vH x M=I s)(h:uO i.size i.bytes a s M=I (v,j)):
 ∃l f g,(Builtin.append_ #[t,ai] t #[k,m]).run P w=.ok l f/\a_ f g v l/\Good f g j/\Ext w Γ f g:=by
 unfold uO at h;split at h
 . rename_i id ver len;split at h
   . rename_i cells ah D;obtain⟨b,h⟩:=ef h;simp only[dh] at h;obtain⟨rfl,rfl⟩:=h;simp only[bL,beq_iff_eq,cZ] at b;obtain⟨⟨⟨r,R⟩,J⟩,N⟩:=b;subst R J;unfold vH at c;split at c
     . rename_i ab af;split at c
       . rename_i y ae E;obtain⟨n,S⟩:=ef c;subst S;simp only[bL,beq_iff_eq] at n;obtain⟨Q,G⟩:=n;subst Q;obtain⟨Y,c2,new,B,p,L,C⟩:=Ml (P:=P) o E aa;have q:=L 0 _ rfl;refine Dc o O T H X W F D r Z ⟨Y,c2,new,B,p,λd b=>?_,q,by rw[r];exact C⟩ N rfl rfl;have K:new=[new.getD 0 Go.undef]:=by
          match new,p with
          |[z],_=>rfl
         rw[K] at b;simp only[dV] at b;rw[b];exact IZ q G
       . cases c
     . cases c
   . cases h
 . cases h
end
section
variable{P:Program}{w:World}{Γ:Env}{M:Mem}{s:av}{a:Act}{o:Oper}{v:V}
theorem zv(b:Nat):∀(n:Nat)(a:List V)(i:Nat)(r:List V),(oI b n a)[i]? =I r->i<n/\r=(a.drop (i*b)).take b
 |0,a,i,r,h=>by simp[oI] at h
 |n+1,a,i,r,h=>by
  simp only[oI] at h;cases i with
  |zero=>simp at h;exact⟨J,by simpa using h.symm⟩
  |succ i=>obtain⟨d,c⟩:=zv b n (a.drop b) i r (by simpa using h);refine⟨J,?_⟩;rw[c,List.drop_drop,gZ,Nat.one_mul,Nat.add_comm]
theorem uU(b:Nat):∀(n:Nat)(a:List V),(oI b n a).length=n
 |0,a=>rfl
 |n+1,a=>by simp[oI,uU b n]
def KF{z:List V}{b:Array Value}(d:dz w Γ z b)(g:0<z.length):∀(n:Nat),dz w Γ (n5 n z) ((Array.range (n*z.length)).map (b[·%b.size]!)):=by
 intro n;have f:∀n,(n5 n z).length=n*z.length:=by
  intro n;induction n with
  |zero=>simp[n5]
  |succ n e=>simp[n5,e,gZ];omega
 have i:∀(n j:Nat),j<n*z.length->(n5 n z)[j]? =z[j%z.length]? :=by
  intro n;induction n with
  |zero=>intro j a;simp at a
  |succ n e=>
   intro j a;simp only[n5];by_cases h:j<z.length
   . rw[et h,Nat.mod_eq_of_lt h]
   . rw[fH J,e _ (by rw[gZ] at a;omega)]
     congr 1
     exact(Nat.mod_eq_sub_mod J).symm
 refine⟨by simp[f],λj x c=>?_⟩;have a:j<n*z.length:=by rw[<-f];exact(az.1 c).1
 rw[i n j a] at c;have:=d.2 _ _ c;have k:j%b.size<b.size:=Nat.mod_lt _ (by rw[d.1];exact g);rw[<-d.1] at this;simpa[gL,a,k] using this
theorem zY:∀(b:List (Nat×Nat×V))(cells a:List V),ml cells b=I a->a.length=cells.length
 |[],cells,a,h=>by simp only[ml,aC] at h;rw[h]
 |(off,size,x)::b,cells,a,h=>by
  simp only[ml] at h;split at h
  . rename_i d _;cases c:(d.length==size&&decide (off+size<=cells.length)) with
    |false=>simp[c] at h
    |true=>simp only[c,bi] at h;rw[zY b _ a h,xV]
  . cases h
def Q7(k:Good w Γ M)(ae:dB w Γ s a.tmps){t e:TypeId}{len n:Nat}{dp:Array (Nat×Operand)}{z:List V}{G:List (Nat×Nat×aA)}(R:o.op=.buildSlice t len dp)(X:P.underlying t=I (.slice e))(O:d3 P e=I n)(Y:jb P e=I z)
 (E:z.length=n)(Q:0<n)(ab:len*n<=2^20)(T:o7 n dp.toList=I G)(h:r0 (n5 len z) n len (iB s G)=I v):gP P w Γ a o v M:=by
 unfold r0 at h;split at h
 . rename_i b C;obtain⟨S,rfl⟩:=ef h;obtain⟨y,aa,Z⟩:=s6 Y;have F:=(Z w Γ).1;have af:y.cells.size=n:=by rw[F.1,E]
   have u:=KF F J len;rw[E] at u;obtain⟨d,B,f⟩:=xa (xR ae T) u C;have A:(dp.map λp=>(p.1,a.eval p.2)).toList=dp.toList.map λp=>(p.1,a.eval p.2):=by simp
   have K:b.length=len*n:=by rw[<-f.1];have:=zY _ _ _ C;rw[f.1,this,u.1.symm];simp
   have W:kb w Γ n (oI n len b) d.toList:=by
    refine⟨by rw[uU];simpa[K] using f.1,λi r q=>?_,λi r j x q g=>?_⟩
    . obtain⟨l,rfl⟩:=zv n len b i r q;have:=p_ (sz:=n) l Q;have:(i+1)*n<=len*n:=hj _ l;rw[gZ] at this;simp;omega
    . obtain⟨l,rfl⟩:=zv n len b i r q;have N:j<n:=by
       have:=(az.1 g).1;simp at this;omega
      rw[fT N,h2] at g;refine⟨qu S _ x g,?_⟩;have:=f.2 _ x g;simpa[gL,jc] using this
   have D:=KG k W #[] e (c:=.full) (by simp) (cap:=len) (λ_=>by rw[uU]) (by rw[uU];exact bk _);simp only[Array.append_empty,uU,Array.toArray_toList] at D;refine⟨_,_,_,?_,.inl ⟨_,rfl,D⟩,k.qv d e,Ext.qv k d e⟩;have H:¬(len*n>2^24):=by
    have:(2:Nat)^20<=2^24:=by decide
    omega
   simp only[execOp,R,Instr.buildSlice,Sem.run_bind,dC X,Result.andThen_ok,fP O,H,if_false,Sem.run_ite,Sem.run_pure,aa];by_cases m:len*n=0
   . rw[aF m];have L:((Array.range (len*n)).map ((#[]:Array Value)[·%(#[]:Array Value).size]!))=((Array.range (len*n)).map (y.cells[·%y.cells.size]!)):=by rw[m];simp
     simp only[Result.andThen_ok,L,A,B,Sem.run_bind,newRow,run_newObj,Sem.run_pure];rfl
   . rw[ax m];simp only[Result.andThen_ok,A,B,Sem.run_bind,newRow,run_newObj,Sem.run_pure];rfl
 . cases h
def Q8(c:Good w Γ M)(ae:dB w Γ s a.tmps){t e:TypeId}{len n:Nat}{dp:Array (Nat×Operand)}{z:List V}{D:List (Nat×Nat×aA)}{m:Mem}(H:o.op=.buildSlice t len dp)(L:P.underlying t=I (.slice e))(G:d3 P e=I n)(Q:jb P e=I z)
 (B:z.length=n)(A:n=1)(W:len*n<=2^20)(K:o7 n dp.toList=I D)(h:oF (n5 len z) len (iB s D) M=I (v,m)):gP P w Γ a o v m:=by
 unfold oF at h;split at h
 . rename_i f y;simp only[aC,dh] at h;obtain⟨rfl,rfl⟩:=h;obtain⟨l,S,R⟩:=s6 Q;have C:=(R w Γ).1;have X:l.cells.size=n:=by rw[C.1,B]
   have k:=KF C J len;rw[B] at k;obtain⟨d,r,g⟩:=xa (xR ae K) k y;have q:(dp.map λp=>(p.1,a.eval p.2)).toList=dp.toList.map λp=>(p.1,a.eval p.2):=by simp
   have u:d.size=len*n:=by rw[g.1,zY _ _ _ y,k.1.symm];simp
   have T:f.length=len:=by rw[<-g.1,u,A,jV]
   have b:=Ext.mc c (.cells d e) (rY w.heap.size 1 len);have F:Good (w.alloc (.cells d e)) (Γ.fl (rY w.heap.size 1 len)) (M++[.b7 f 0]):=
    c.mc _ _ rfl _ ⟨rfl,rfl,rfl,(by show f.length<=len;omega),(λN=>by cases N),λ_=>⟨λo=>c.q1 o,d,e,heap_alloc_new w _,(by show d.size=len;rw[u,A,jV]),λj x O=>(g.2 j x O).ext b⟩⟩;refine⟨_,_,_,?_,.inl ⟨_,rfl,Bj c (w':=_) (sz:=1) (cap:=len) (bk _)⟩,F,b⟩;have E:¬(len*n>2^24):=by
    have:(2:Nat)^20<=2^24:=by decide
    omega
   simp only[execOp,H,Instr.buildSlice,Sem.run_bind,dC L,Result.andThen_ok,fP G,E,if_false,Sem.run_ite,Sem.run_pure,S];by_cases i:len*n=0
   . rw[aF i];have b:((Array.range (len*n)).map ((#[]:Array Value)[·%(#[]:Array Value).size]!))=((Array.range (len*n)).map (l.cells[·%l.cells.size]!)):=by rw[i];simp
     simp only[Result.andThen_ok,b,q,r,Sem.run_bind,newRow,run_newObj,Sem.run_pure];rfl
   . rw[ax i];simp only[Result.andThen_ok,q,r,Sem.run_bind,newRow,run_newObj,Sem.run_pure];rfl
 . cases h
def Qj(D:Good w Γ M)(ae:dB w Γ s a.tmps){t ai e Q:TypeId}{i:TypeInfo}{imm:Bool}{x y:Operand}{J O:aA}{n:Mem}(K:o.op=.call ⟨.builtin .append,#[x,y],#[t,ai]⟩) (E:P.underlying t=I (.slice e)) (F:P.underlying ai=I (.slice Q)) (l:P.info? e=I i) (C:0<i.bytes)
 (f:Cg P e i.size=U) (S:bJ x=I J) (V:bJ y=I O) (h:cw imm i.size i.bytes (aw s J) (aw s O) M=I (v,n)):gP P w Γ a o v n:=by
 have m:=du ae S;have H:=du ae V;have j:∃k,i.zero=I k/\k.cells.size=i.size:=by
  unfold Cg jb at f;rw[l] at f;cases N:i.zero with
  |none=>simp[N] at f
  |some k=>
   refine⟨k,rfl,?_⟩;simp only[N] at f;split at f
   . rename_i z R;have:=(wV (w:=w) (Γ:=Γ) R).1;simp only[Array.length_toList,beq_iff_eq] at this f;omega
   . cases f
 obtain⟨k,j,G⟩:=j;unfold cw at h;split at h
 . rename_i Z L;have key:∃d b g,(Builtin.append_ #[t,ai] t #[a.eval x,a.eval y]).run P w=.ok d b/\a_ b g v d/\Good b g n/\Ext w Γ b g:=by
    generalize W:aw s J=q at m h;cases q with
    |slice X c=>exact Ql D E F l j G C m H L h
    |an id ver start len=>exact Qi D (imm:=imm) E F l j G C m H L h
    |_=>simp[eU] at h
   obtain⟨d,b,g,r,u,A,B⟩:=key;refine⟨_,b,g,?_,.inl ⟨d,rfl,u⟩,A,B⟩;have p:(Builtin.append_ #[t,ai] o.type #[a.eval x,a.eval y]).run P w=.ok d b:=r;simp only[execOp,K,resolve,Sem.run_bind,Sem.run_pure,Result.andThen_ok,invoke,builtin];simp only[List.map_toArray,gg,jD];simp only[p,Result.andThen_ok]
 . split at h
   . rename_i Y T;obtain⟨d,b,g,r,u,A,B⟩:=Qk (P:=P) D E F l j G C m H T h;refine⟨_,b,g,?_,.inl ⟨d,rfl,u⟩,A,B⟩;have p:(Builtin.append_ #[t,ai] o.type #[a.eval x,a.eval y]).run P w=.ok d b:=r;simp only[execOp,K,resolve,Sem.run_bind,Sem.run_pure,Result.andThen_ok,invoke,builtin];simp only[List.map_toArray,gg,jD];simp only[p,Result.andThen_ok]
   . cases h
end
def qU:TypeDesc->Option ex
 |.bool=>I .bool
 |.int _=>I .int
 |.string=>I .str
 |_=>ag
section
variable{P:Program}{w:World}{Γ:Env}{M:Mem}{s:av}{a:Act}{o:Oper}{v:V}
def I3{t:TypeId}{c:ex}(h:jY P t=I c):∃d,P.underlying t=I d/\qU d=I c:=by
 unfold jY at h;split at h<;>simp only[aC,reduceCtorEq] at h<;>subst h
 . rename_i a;exact⟨_,a,rfl⟩
 . rename_i k a;exact⟨_,a,rfl⟩
 . rename_i a;exact⟨_,a,rfl⟩
def Rd(p q:List UInt8):((⟨p.toArray⟩:ByteArray)==⟨q.toArray⟩)=decide (p=q):=by
 by_cases h:p=q
 . subst h;simp only[decide_true];exact(Go.MapKept.bytes_beq _ _).2 rfl
 . simp only[h,decide_false];cases a:((⟨p.toArray⟩:ByteArray)==⟨q.toArray⟩) with
   |false=>rfl
   |true=>have:=(Go.MapKept.bytes_beq _ _).1 a;simp only[oj.injEq] at this;exact aJ (by simpa using this) h
def x3{d:TypeDesc}{c:ex}(i:qU d=I c){x y:V}{f g:Value}(j:a_ w Γ x f)(l:a_ w Γ y g){b:Bool}(h:gn c x y=I b):
 Instr.sameNow d f g=I b/\(b=U->f=g):=by
 unfold gn at h;split at h
 . rename_i k p m q;obtain⟨e,rfl⟩:=ef h;simp only[cZ] at e;subst e;rw[ih j,ih l];cases d<;>simp[qU] at i;simp only[Instr.sameNow,aF];exact⟨by congr 1,λa=>by simp only[cZ] at a;rw[a]⟩
 . rename_i p q;simp only[aC] at h;subst h;rw[nl j rfl,nl l rfl];cases d<;>simp[qU] at i;simp only[Instr.sameNow];exact⟨by cases p<;>cases q<;>rfl,λa=>by simp only[cZ] at a;rw[a]⟩
 . rename_i p q;simp only[aC] at h;subst h;rw[n6 j,n6 l];cases d<;>simp[qU] at i;simp only[Instr.sameNow,Rd];exact⟨trivial,λa=>by simp only[cZ] at a;rw[a]⟩
 . cases h
theorem Sn{a:TypeId}{d:TypeDesc}{c:ex}(g:P.underlying a=I d)(f:qU d=I c)(b:Bool)(n:Nat)(v:Value)(e:World):(Instr.checkKey b (n+1) a v).run P e=.ok () e:=by unfold Instr.checkKey;simp only[Sem.run_bind,dC g,Result.andThen];cases d<;>simp[qU] at f<;>rfl
def ty{e:TypeId}{c:ex}(h:jY P e=I c)(b:Bool)(n:Nat)(v:Value)(a:World):(Instr.checkKey b (n+1) e v).run P a=.ok () a:=by obtain⟨d,g,f⟩:=I3 h;exact Sn g f b n v a
theorem Si{a j:List ex}{e g:List V}{b:Bool}(h:fk (a++j) e g=I b):
 ∃f i,fk a e g=I f/\fk j (e.drop a.length) (g.drop a.length)=I i/\b=(f&&i):=by
 induction a generalizing e g b with
 |nil=>exact⟨U,b,by cases e<;>rfl,by simpa using h,rfl⟩
 |cons c a q=>obtain⟨x,r,y,s,f,i,rfl,rfl,o,p,rfl⟩:=r4 h;obtain⟨k,l,m,n,rfl⟩:=q p;refine⟨f&&k,l,?_,n,by rw[Bool.and_assoc]⟩;show(match gn c x y,fk a r s with|some b,I d=>I (b&&d)|_,_=>ag)=_;rw[o,m]
def A7{t:TypeId}{m:Nat}(i:iw P t=I U)(l:d3 P t=I m){f:List V}{a:Array Value}(c:dz w Γ f a){n:Nat}(h:n+m<=f.length):
 ∃sub:Array Value,dz w Γ ((f.drop n).take m) sub/\∀d,(part t a n).run P d=.ok (.agg sub) d:=by
 refine⟨a.extract n (n+m),⟨?_,λj x b=>?_⟩,λd=>by simp[part,qP i,fP l]⟩
 . have:=c.1;simp[this];omega
 . have k:j<m:=by
    have:=(az.1 b).1;simp at this;omega
   rw[fT k,h2] at b;have g:=c.2 _ _ b;have e:(a.extract n (n+m)).getD j Go.undef=a.getD (n+j) Go.undef:=by
    have o:n+j<a.size:=by rw[c.1];exact(az.1 b).1
    rw[gL,gL,Array.getElem?_extract,aF J]
   rw[e];exact g
theorem Sk{a:List ex}:∀{e f:List V}{b:Bool},fk a e f=I b->fk a (e.take a.length) (f.take a.length)=I b:=by
 induction a with
 |nil=>intro e f b h;cases e<;>exact h
 |cons c a j=>intro e f b h;obtain⟨x,k,y,l,m,n,rfl,rfl,g,i,rfl⟩:=r4 h;show(match gn c x y,fk a (k.take a.length) (l.take a.length) with|some b,I d=>I (b&&d)|_,_=>ag)=_;rw[g,j i]
theorem Sj{a:List ex}:∀{d e:List V}{b:Bool},fk a d e=I b->a.length<=d.length/\a.length<=e.length:=by
 induction a with
 |nil=>intro d e b _;exact⟨c_ _,c_ _⟩
 |cons c a g=>intro d e b h;obtain⟨x,l,y,m,i,j,rfl,rfl,k,f,rfl⟩:=r4 h;have:=g f;simp only[cc];omega
theorem Ao(d:Nat){t u:List V}{C E:Array Value}(l:dz w Γ t C)(o:dz w Γ u E)(c:World):∀(i:List Field)(n:Nat)(s:List ex)(b:Bool),qT P n i=I s->fk s (t.drop n) (u.drop n)=I b->
 (Op.eqFields (d+1+1) C E i).run P c=.ok b c
 |[],n,s,b,a,h=>by simp only[qT,aC] at a;subst a;simp only[fk,aC] at h;subst h;simp[Op.eqFields]
 |f::i,n,s,b,a,h=>by
  simp only[qT] at a;split at a
  . rename_i A;simp only[bL,bne_iff_ne,ne_eq,beq_iff_eq] at A;split at a
    . rename_i k W;split at a<;>simp only[aC,reduceCtorEq] at a;rename_i Y j z;subst a;obtain⟨x,al,y,am,g,v,G,H,p,q,rfl⟩:=r4 h;have K:t[n]? =I x:=by have:=congrArg (·[0]?) G;simpa using this
      have L:u[n]? =I y:=by have:=congrArg (·[0]?) H;simpa using this
      have R:t.drop (n+1)=al:=by have:=congrArg (List.drop 1) G;simpa[Nat.add_comm] using this
      have S:u.drop (n+1)=am:=by have:=congrArg (List.drop 1) H;simpa[Nat.add_comm] using this
      have B:=Ao d l o c i (n+1) Y v z (by rw[R,S];exact q);have X:=As W (l.2 _ _ K) (o.2 _ _ L) p (d+1) c;simp only[Op.eqFields,A,ne_eq,not_false_eq_true,if_true,Sem.run_bind,o6 j l K,o6 j o L,Result.andThen_ok,X,Sem.run_ite,B];cases g<;>simp
    . split at a
      . rename_i M m Q O j;split at a
        . rename_i Z aa T z;split at a<;>simp only[aC,reduceCtorEq] at a;rename_i r;simp only[bL,beq_iff_eq,hM,cZ] at r;subst a;obtain⟨g,v,p,q,rfl⟩:=Si h;obtain⟨ab,af⟩:=Sj p;rw[kJ] at ab af;have B:=Ao d l o c i (n+m) aa v z (by rw[r.1.1] at q;rw[<-List.drop_drop,<-List.drop_drop];exact q);obtain⟨D,aj,ah⟩:=A7 j O l (n:=n) J;obtain⟨F,ak,ai⟩:=A7 j O o (n:=n) J;have ae:(Op.equalIn (d+1+1) f.type (.agg D) (.agg F)).run P c=.ok g c:=by
           have e:P.fieldsOf f.type=M:=by simp[Program.fieldsOf,Q]
           rw[run_equalIn_struct c (d+1) f.type D F (by rw[e];exact Q) r.2,e];have N:=Sk p;rw[r.1.1] at N;exact zX d aj ak c M.toList 0 Z g T (by simpa using N)
          simp only[Op.eqFields,A,ne_eq,not_false_eq_true,if_true,Sem.run_bind,ah,ai,Result.andThen_ok,ae,Sem.run_ite,B];cases g<;>simp
        . cases a
      . cases a
  . cases a
def Yc{f:TypeId}{o:List ex}(a:k2 P f=I (.cells o)){p q:List V}{g i:Array Value}(l:dz w Γ p g)(m:dz w Γ q i){b:Bool}(h:fk o p q=I b)(c:World):
 (Op.equal f (.agg g) (.agg i)).run P c=.ok b c:=by
 rw[r9];unfold k2 at a;split at a
 . cases a
 . cases a
 . cases a
 . split at a
   . rename_i j d;split at a
     . rename_i x s;split at a<;>simp only[aC,reduceCtorEq,en.cells.injEq] at a;rename_i v;subst a;have e:P.fieldsOf f=j:=by simp[Program.fieldsOf,d]
       rw[run_equalIn_struct c 9999 f g i (by rw[e];exact d) (by simpa using v),e];exact Ao 9997 l m c j.toList 0 x b s (by simpa using h)
     . cases a
   . rename_i n e d;split at a
     . rename_i k t r;split at a<;>simp only[aC,reduceCtorEq,en.cells.injEq] at a;rename_i u;subst a;exact EI d t r (by simpa using u) l m h c
     . cases a
   . cases a
theorem D9(b:Bool)(d:Nat){g:List V}{i:Array Value}(l:dz w Γ g i)(h:World):∀(c:List Field)(n:Nat)(e:List ex),pe P n c=I e->n+e.length<=g.length->
 (forIn c PUnit.unit λ(f:Field)(_:PUnit)=>(do
   if f.name≠ "_" then Instr.checkKey b (d+1) f.type (<-part f.type i f.offset)
   pure (ForInStep.yield PUnit.unit):Sem (ForInStep PUnit))).run P h=.ok PUnit.unit h
 |[],n,e,_,_=>by simp
 |f::c,n,e,a,r=>by
  simp only[pe] at a;split at a
  . rename_i k t q o p;split at a<;>simp only[aC,reduceCtorEq] at a;rename_i j;simp only[bL,bne_iff_ne,ne_eq,beq_iff_eq] at j;subst a;simp only[cc] at r;have m:g[n]? =I (g[n]'J):=by simp
    have s:=D9 b d l h c (n+1) t p J;simp only[List.forIn_cons,Sem.run_bind,j,ne_eq,not_false_eq_true,if_true,o6 o l m,Result.andThen_ok,ty q,Sem.run_pure];exact s
  . cases a
theorem Sr{t:TypeId}{a:Array Field}(i:P.underlying t=I (.struct a)){c:List ex}(h:pe P 0 a.toList=I c)(b:Bool)(d:Nat){g:List V}{f:Array Value}(j:dz w Γ g f)(k:c.length<=g.length)(e:World):
 (Instr.checkKey b (d+1+1) t (.agg f)).run P e=.ok () e:=by
 rw[Instr.checkKey];simp only[Sem.run_bind,dC i,Result.andThen_ok];rw[<-Array.forIn_toList];have:=D9 b d j e a.toList 0 c h J;simp at this⊢;rw[this];rfl
theorem zu(b:Bool)(d:Nat){i:List V}{q:Array Value}(g:dz w Γ i q)(e:World):∀(c:List Field)(n:Nat)(h:List ex),qT P n c=I h->n+h.length<=i.length->
 (forIn c PUnit.unit λ(f:Field)(_:PUnit)=>(do
   if f.name≠ "_" then Instr.checkKey b (d+1+1) f.type (<-part f.type q f.offset)
   pure (ForInStep.yield PUnit.unit):Sem (ForInStep PUnit))).run P e=.ok PUnit.unit e
 |[],n,h,_,_=>by simp
 |f::c,n,h,a,r=>by
  simp only[qT] at a;split at a
  . rename_i o;simp only[bL,bne_iff_ne,ne_eq,beq_iff_eq] at o;split at a
    . rename_i k u;split at a<;>simp only[aC,reduceCtorEq] at a;rename_i z j l;subst a;simp only[cc] at r;have s:i[n]? =I (i[n]'J):=by simp
      have p:=zu b d g e c (n+1) z l J;simp only[List.forIn_cons,Sem.run_bind,o,ne_eq,not_false_eq_true,if_true,o6 j g s,Result.andThen_ok,ty u,Sem.run_pure];exact p
    . split at a
      . rename_i E m y x j;split at a
        . rename_i F A t l;split at a<;>simp only[aC,reduceCtorEq] at a;rename_i v;simp only[bL,beq_iff_eq,hM,cZ] at v;subst a;rw[b0] at r;obtain⟨D,C,B⟩:=A7 j x g (n:=n) J;have ae:=Sr y t b d C (by simp;omega) e;have p:=zu b d g e c (n+m) A l J;simp only[List.forIn_cons,Sem.run_bind,o,ne_eq,not_false_eq_true,if_true,B,Result.andThen_ok,ae,Sem.run_pure];exact p
        . cases a
      . cases a
  . cases a
theorem yX:∀{a:List ex}{b:List V},rX a b=U->a.length=b.length
 |[],[],_=>rfl
 |[],_::_,h=>by cases h
 |_::_,[],h=>by cases h
 |c::a,x::b,h=>by simp only[rX,bL] at h;simp[yX h.2]
theorem D8{e:TypeId}{k:ex}(j:jY P e=I k)(g:iw P e=I ad)(l:d3 P e=I 1)(b:Bool)(d:Nat){a:List V}{f:Array Value}(o:dz w Γ a f)(c:World):
 ∀(m n:Nat),n+m<=a.length->(forIn (List.range' n m) PUnit.unit λ(i:Nat)(_:PUnit)=>(do
  Instr.checkKey b (d+1) e (<-part e f (i*(<-sizeOf e)))
  pure (ForInStep.yield PUnit.unit):Sem (ForInStep PUnit))).run P c=.ok PUnit.unit c
 |0,n,_=>by simp
 |m+1,n,h=>by
  have p:a[n]? =I (a[n]'J):=by simp
  have q:=D8 j g l b d o c m (n+1) J;rw[List.range'_succ,List.forIn_cons];simp only[Sem.run_bind,fP l,jV,o6 g o p,Result.andThen_ok,ty j,Sem.run_pure];exact q
def so{c:ex}{x:V}(h:qQ c x=U):x.qR=U:=by unfold qQ at h;split at h<;>first|rfl|cases h
theorem Aq{c:List ex}{key:V}{d:Value}(h:iW (.cells c) key=U)(e:a_ w Γ key d):∃b a,key=.agg b/\d=.agg a/\dz w Γ b a/\rX c b=U:=by
 cases key<;>simp only[iW,gX] at h;cases e with
 |agg _ a f g=>exact⟨_,a,rfl,rfl,⟨f,g⟩,h⟩
def qz{o:TypeId}{c:en}(a:k2 P o=I c)(b:Bool){key:V}{g:Value}(m:iW c key=U)(l:a_ w Γ key g)(f:World):(Instr.checkKey b 10000 o g).run P f=.ok () f:=by
 unfold k2 at a;split at a
 . rename_i d;exact ty d b 9999 g f
 . rename_i d;exact ty d b 9999 g f
 . rename_i d;exact ty d b 9999 g f
 . split at a
   . rename_i r j;split at a
     . rename_i v t;split at a<;>simp only[aC,reduceCtorEq] at a;subst a;obtain⟨x,p,rfl,rfl,i,h⟩:=Aq m l;rw[Instr.checkKey];simp only[Sem.run_bind,dC j,Result.andThen_ok];rw[<-Array.forIn_toList];have:=zu b 9997 i f r.toList 0 v t (by have:=yX h;omega);simp at this⊢;rw[this];rfl
     . cases a
   . rename_i n e j;split at a
     . rename_i k d s;split at a<;>simp only[aC,reduceCtorEq] at a;rename_i u;subst a;obtain⟨x,p,rfl,rfl,i,h⟩:=Aq m l;rw[Instr.checkKey];simp only[Sem.run_bind,dC j,Result.andThen_ok];rw[Std.Legacy.Range.forIn_eq_forIn_range'];have q:[:n].size=n:=by simp[Std.Legacy.Range.size]
       rw[q];have:=D8 d s (by simpa using u) b 9998 i f n 0 (by have:=yX h;simp at this;omega);simp at this⊢;rw[this];rfl
     . cases a
   . cases a
def x5{x:V}{a:Value}(h:x.qR=U)(b:a_ w Γ x a)(n:Nat):Instr.sameBits n a a=U:=by
 cases x<;>simp only[V.qR,gX] at h
 . rw[nl b rfl];cases n<;>simp[Instr.sameBits]
 . rw[ih b];cases n<;>simp[Instr.sameBits]
 . rw[n6 b];cases n<;>(simp only[Instr.sameBits];exact(Go.MapKept.bytes_beq _ _).2 rfl)
theorem yY:∀{d:List ex}{b:List V},rX d b=U->∀(j:Nat)(x:V),b[j]? =I x->x.qR=U
 |[],[],_,j,x,h=>by simp at h
 |[],_::_,h,_,_,_=>by cases h
 |_::_,[],h,_,_,_=>by cases h
 |c::d,y::b,h,j,x,a=>by
  simp only[rX,bL] at h;cases j with
  |zero=>simp at a;subst a;exact so h.1
  |succ j=>exact yY h.2 j x (by simpa using a)
theorem acc{c:en}{key:V}(h:iW c key=U){b:Value}(a:a_ w Γ key b):Instr.sameBits 10000 b b=U:=by
 cases c with
 |cells t=>
  obtain⟨f,d,rfl,rfl,k,n⟩:=Aq h a;simp only[Instr.sameBits,beq_self_eq_true,Bool.true_and,List.all_eq_true];rintro⟨p,q⟩ s;obtain⟨j,o,e⟩:=List.getElem_of_mem s;simp only[List.getElem_zip,dh] at e;obtain⟨rfl,rfl⟩:=e;have i:j<d.size:=by simpa using o
  have r:j<f.length:=by rw[<-k.1];exact i
  have l:f[j]? =I f[j]:=by simp[r]
  have g:=k.2 j _ l;have m:d.getD j Go.undef=d[j]:=by simp[Array.getD,i]
  rw[m] at g;simpa using x5 (yY n j _ l) g 9999
 |bool=>exact x5 (so h) a _
 |int=>exact x5 (so h) a _
 |str=>exact x5 (so h) a _
theorem I0{c:en}{key:V}(h:iW c key=U):key.nc=U:=by
 cases c with
 |cells d=>cases key<;>simp only[iW,gX] at h;rename_i f;simp only[V.nc,List.all_eq_true];intro x b;obtain⟨j,a,e⟩:=List.getElem_of_mem b;exact yY h j x (by simp[<-e,a])
 |bool=>have:=so h;cases key<;>first|exact this|cases h
 |int=>have:=so h;cases key<;>first|exact this|cases h
 |str=>have:=so h;cases key<;>first|exact this|cases h
end
section
variable{P:Program}{w:World}{Γ:Env}{M:Mem}{s:av}{a:Act}{o:Oper}{v:V}
def pq(w:World)(Γ:Env)(l:List MapEntry)(b:List (V×V)):Prop:=
 l.length=b.length/\∀(i:Nat)(e:MapEntry)(a:V×V),l[i]? =I e->b[i]? =I a->a_ w Γ a.1 e.key/\a_ w Γ a.2 e.val
def pq.tail{e:MapEntry}{l:List MapEntry}{f:V×V}{a:List (V×V)}(h:pq w Γ (e::l) (f::a)):pq w Γ l a:=
 ⟨by simpa using h.1,λi b g c d=>h.2 (i+1) b g (by simpa using c) (by simpa using d)⟩
theorem wU{c:ex}{x y:V}(h:gn c x y=I U){e f:Value}(a:a_ w Γ x e)(b:a_ w Γ y f):e=f:=by
 cases c with
 |bool=>exact(x3 (d:=.bool) rfl a b h).2 rfl
 |int=>exact(x3 (d:=.int .i64) rfl a b h).2 rfl
 |str=>exact(x3 (d:=.string) rfl a b h).2 rfl
def Sl:∀{b:List ex}{a d:List V},fk b a d=I U->a.length=b.length->d.length=b.length->
 ∀{l m:Array Value},dz w Γ a l->dz w Γ d m->l=m:=by
 intro b a d h t A l m o s;have key:∀{b:List ex}{a d:List V},fk b a d=I U->a.length=b.length->∀(j:Nat)(x:V),a[j]? =I x->∃c y,d[j]? =I y/\gn c x y=I U:=by
  intro b;induction b with
  |nil=>intro a d _ k j x g;simp at k;subst k;simp at g
  |cons c b z=>
   intro a d h k j x g;obtain⟨E,F,B,G,C,D,rfl,rfl,f,i,v⟩:=r4 h;have n:=v.symm;simp only[bL] at n;rw[n.1] at f;rw[n.2] at i;cases j with
   |zero=>simp at g;subst g;exact⟨c,B,rfl,f⟩
   |succ j=>obtain⟨u,y,p,q⟩:=z i (by simpa using k) j x (by simpa using g);exact⟨u,y,by simpa using p,q⟩
 apply Array.ext
 . rw[o.1,s.1,t,A]
 . intro j f i;have r:j<a.length:=by rw[<-o.1];exact f
   obtain⟨c,y,p,q⟩:=key h t j a[j] (by simp[r]);have e:=wU q (o.2 j a[j] (by simp[r])) (s.2 j y p);simpa[Array.getD,f,i] using e
theorem Yd{o:TypeId}{c:en}(q:k2 P o=I c){key k:V}{g e:Value}(a:a_ w Γ key g)(d:a_ w Γ k e){b:Bool}(h:gF c key k=I b):b=U->g=e:=by
 intro i;subst i;cases c with
 |bool=>exact wU h a d
 |int=>exact wU h a d
 |str=>exact wU h a d
 |cells r=>
  cases key<;>cases k<;>simp only[gF,reduceCtorEq] at h;rename_i s t;obtain⟨f,h⟩:=nQ h;simp only[bL,beq_iff_eq] at f;cases a with
  |agg _ p j m=>
   cases d with
   |agg _ e l n=>rw[Sl h f.1 f.2 ⟨j,m⟩ ⟨l,n⟩]
theorem EW{d:TypeDesc}{c:en}(ae:∀{x y:V}{q r:Value}{b:Bool},a_ w Γ x q->a_ w Γ y r->gF c x y=I b->Instr.sameNow d q r=I b){key:V}{g:Value}(s:a_ w Γ key g):∀(l:List MapEntry)(a:List (V×V))(n:Nat),pq w Γ l a->k3 c key a=U->
 (gs c key a n=ag/\Instr.findNow d g l n=I ag)∨∃j e,gs c key a n=I (n+j)/\l[j]? =I e/\Instr.findNow d g l n=I (I (n+j,e.val))
 |[],[],n,_,_=>.inl ⟨rfl,rfl⟩
 |[],z::a,n,h,_=>by have:=h.1;simp at this
 |e::l,[],n,h,_=>by have:=h.1;simp at this
 |e::l,(k,y)::a,n,h,o=>by
  simp only[k3,bL] at o;obtain⟨v,_⟩:=h.2 0 e (k,y) rfl rfl;obtain⟨b,f⟩:=Option.isSome_iff_exists.1 o.1;have p:=ae s v f;cases b with
  |true=>exact .inr ⟨0,e,by simp[gs,f],rfl,by simp[Instr.findNow,p]⟩
  |false=>
   rcases EW ae s l a (n+1) h.tail o.2 with⟨i,m⟩|⟨j,t,i,m,u⟩
   . exact .inl ⟨by simp[gs,f,i],by simp[Instr.findNow,p,m]⟩
   . exact .inr ⟨j+1,t,by simp[gs,f,i];omega,by simpa using m,by simp[Instr.findNow,p,u];omega⟩
theorem EU{kt:TypeId}{c:en}(ae:∀{x y:V}{q r:Value}{b:Bool},a_ w Γ x q->a_ w Γ y r->gF c x y=I b->∀a,(Op.equal kt q r).run P a=.ok b a){key:V}{g:Value}(s:a_ w Γ key g)(a:World):∀(l:List MapEntry)(d:List (V×V))(n:Nat),pq w Γ l d->k3 c key d=U->
 (gs c key d n=ag/\(Instr.findAsking kt g l n).run P a=.ok ag a)∨∃j e,gs c key d n=I (n+j)/\l[j]? =I e/\(Instr.findAsking kt g l n).run P a=.ok (I (n+j,e.val)) a
 |[],[],n,_,_=>.inl ⟨rfl,by simp[Instr.findAsking]⟩
 |[],z::d,n,h,_=>by have:=h.1;simp at this
 |e::l,[],n,h,_=>by have:=h.1;simp at this
 |e::l,(k,y)::d,n,h,o=>by
  simp only[k3,bL] at o;obtain⟨v,_⟩:=h.2 0 e (k,y) rfl rfl;obtain⟨b,f⟩:=Option.isSome_iff_exists.1 o.1;have p:=ae s v f a;cases b with
  |true=>exact .inr ⟨0,e,by simp[gs,f],rfl,by simp[Instr.findAsking,p]⟩
  |false=>
   rcases EU ae s a l d (n+1) h.tail o.2 with⟨i,m⟩|⟨j,t,i,m,u⟩
   . exact .inl ⟨by simp[gs,f,i],by simp[Instr.findAsking,p,m]⟩
   . exact .inr ⟨j+1,t,by simp[gs,f,i];omega,by simpa using m,by simp[Instr.findAsking,p,u];omega⟩
theorem sx{c:en}{key:V}:∀(a:List (V×V))(n:Nat),(gs c key a n=ag->nZ c key a=ag/\∀x,lK c key x a=a++[(key,x)])/\
 ∀i,gs c key a n=I (n+i)->∃k y,a[i]? =I (k,y)/\nZ c key a=I y/\(gF c key k).getD ad=U/\∀x,lK c key x a=a.set i (key,x)
 |[],n=>⟨λ_=>⟨rfl,λ_=>rfl⟩,λi h=>by simp[gs] at h⟩
 |(k,y)::a,n=>by
  obtain⟨r,s⟩:=sx (c:=c) (key:=key) a (n+1);cases b:(gF c key k).getD ad with
  |true=>refine⟨λh=>by simp[gs,b] at h,λi h=>?_⟩;simp[gs,b] at h;subst h;exact⟨k,y,rfl,by simp[nZ,b],b,λx=>by simp[lK,b]⟩
  |false=>
   refine⟨λh=>?_,λi h=>?_⟩
   . simp only[gs,b,eE] at h;obtain⟨f,g⟩:=r h;exact⟨by simp[nZ,b,f],λx=>by simp[lK,b,g]⟩
   . simp only[gs,b,eE] at h;have o:∃d,i=d+1:=by
      cases i with
      |zero=>
       exfalso;have:∀(a:List (V×V))(m q:Nat),gs c key a m=I q->m<=q:=by
        intro a;induction a with
        |nil=>intro m q h;simp[gs] at h
        |cons t a p=>
         intro m q h;obtain⟨e,l⟩:=t;simp only[gs] at h;cases j:(gF c key e).getD ad with
         |true=>rw[j] at h;simp at h;omega
         |false=>rw[j] at h;have:=p (m+1) q (by simpa using h);omega
       have:=this a (n+1) _ h;omega
      |succ d=>exact⟨d,rfl⟩
     obtain⟨d,rfl⟩:=o;obtain⟨e,l,f,g,u,v⟩:=s d (by rw[h];congr 1;omega);exact⟨e,l,by simpa using f,by simp[nZ,b,g],u,λx=>by simp[lK,b,v]⟩
theorem Ye{b:TypeId}{k:ex}(h:jY P b=I k){c:en}(a:k2 P b=I c):∃d,P.underlying b=I d/\qU d=I k/\∀x y,gF c x y=gn k x y:=by obtain⟨d,e,f⟩:=I3 h;refine⟨d,e,f,?_⟩;unfold k2 at a;rw[h] at a;cases k<;>simp only[aC] at a<;>subst a<;>intro x y<;>rfl
theorem xb{i:TypeId}{c:en}(f:k2 P i=I c){key:V}{m:Value}(D:a_ w Γ key m)(l:List MapEntry)(o:List (V×V))(h:pq w Γ l o)(L:k3 c key o=U):
 (gs c key o 0=ag/\∀a,(Instr.findKey i m l).run P a=.ok ag a)∨
 ∃j e,gs c key o 0=I j/\l[j]? =I e/\e.key=m/\∀a,(Instr.findKey i m l).run P a=.ok (I (j,e.val)) a:=by
 have same:∀(j:Nat)(e:MapEntry),gs c key o 0=I j->l[j]? =I e->e.key=m:=λj e N O=>by
  obtain⟨k,y,aa,_,s,_⟩:=(sx (c:=c) (key:=key) o 0).2 j (by simpa using N);obtain⟨b,H⟩:∃b,gF c key k=I b:=by
   cases al:gF c key k with
   |none=>rw[al] at s;simp at s
   |some b=>exact⟨b,rfl⟩
  rw[H] at s;simp only[nz] at s;exact(Yd f D (h.2 j e (k,y) O aa).1 H s).symm
 cases K:jY P i with
 |some k=>
  obtain⟨d,J,R,heq⟩:=Ye K f;rcases EW (d:=d) (c:=c) (λE F h=>(x3 R E F (by rw[<-heq];exact h)).1) D l o 0 h L with⟨g,p⟩|⟨j,e,g,p,v⟩
  . exact .inl ⟨g,λa=>Go.MapKept.run_findKey J p⟩
  . rw[dm] at g v;exact .inr ⟨j,e,g,p,same j e g p,λa=>Go.MapKept.run_findKey J v⟩
 |none=>
  have Q:∃r d,c=.cells r/\P.underlying i=I d/\(∀x y,Instr.sameNow d x y=ag):=by
   unfold k2 at f;rw[K] at f;simp only at f;split at f
   . rename_i af q;split at f
     . split at f<;>simp only[aC,reduceCtorEq] at f;exact⟨_,_,f.symm,q,λx y=>rfl⟩
     . cases f
   . rename_i n e q;split at f
     . split at f<;>simp only[aC,reduceCtorEq] at f;exact⟨_,_,f.symm,q,λx y=>rfl⟩
     . cases f
   . cases f
  obtain⟨r,d,rfl,q,W⟩:=Q;have ae:∀{x y:V}{t u:Value}{b:Bool},a_ w Γ x t->a_ w Γ y u->gF (.cells r) x y=I b->∀a,(Op.equal i t u).run P a=.ok b a:=by
   intro x y t u b E F A a;cases x<;>cases y<;>simp only[gF,reduceCtorEq] at A;obtain⟨_,A⟩:=nQ A;cases E with
   |agg _ t S Y=>
    cases F with
    |agg _ u T Z=>exact Yc f ⟨S,Y⟩ ⟨T,Z⟩ A a
  have run:∀a,(Instr.findKey i m l).run P a=(match l with|[]=>.ok ag a|_=>(Instr.findAsking i m l 0).run P a):=λa=>by
   unfold Instr.findKey;simp only[Sem.run_bind,dC q,Result.andThen_ok];cases l with
   |nil=>simp[Instr.findNow]
   |cons e l=>simp[Instr.findNow,W]
  have ap:=λa=>EU (P:=P) (kt:=i) (c:=.cells r) ae D a l o 0 h L;have M:∀a,(Instr.findKey i m l).run P a=(Instr.findAsking i m l 0).run P a:=λa=>by
   rw[run a];cases l with
   |nil=>simp[Instr.findAsking]
   |cons e l=>rfl
  cases z:gs (.cells r) key o 0 with
  |none=>
   refine .inl ⟨rfl,λa=>?_⟩;rcases ap a with⟨_,p⟩|⟨j,e,g,_,_⟩
   . rw[M,p]
   . rw[z] at g;cases g
  |some j=>
   have G:∀a,∃e,l[j]? =I e/\(Instr.findKey i m l).run P a=.ok (I (j,e.val)) a:=λa=>by
    rcases ap a with⟨g,_⟩|⟨ah,e,g,p,v⟩
    . rw[z] at g;cases g
    . rw[z,dm] at g;simp only[aC] at g;subst g;exact⟨e,p,by rw[M,v,dm]⟩
   obtain⟨e,B,_⟩:=G w;refine .inr ⟨j,e,rfl,B,same j e z B,λa=>?_⟩;obtain⟨ab,C,X⟩:=G a;rw[B] at C;simp only[aC] at C;subst C;exact X
def MG{t:TypeId}{z:V}(h:jb P t=I [z])(b:tZ P t=U):∃a:Value,(∀g,(zeroValue t).run P g=.ok a g)/\∀(w:World)(Γ:Env),a_ w Γ z a:=by
 obtain⟨a,c,j⟩:=s6 h;refine⟨a,c,λw Γ=>?_⟩;obtain⟨d,_⟩:=j w Γ;have f:=c w;have k:a.cells=#[a]:=by
  unfold tZ at b;split at b
  . rename_i i l;have e:i.zero=I a:=by
     simp[zeroValue,typeInfo,l] at f;split at f<;>simp_all
    rw[e] at b;cases a<;>simp at b<;>rfl
  . cases b
 rw[k] at d;have:=d.2 0 z rfl;simpa using this
theorem xx(v:Good w Γ M){id:Nat}{d:List (V×V)}(u:M[id]? =I (.map d)){m:Value}(x:a_ w Γ (.map id) m):
 ∃l c,Γ.cf[id]? =I l/\l.live=U/\(∀o,¬Γ.S l.b o)/\l.box=U/\m=.map (I l.b)/\w.heap[l.b]? =I (.map c d.length)/\pq w Γ c.toList d/\
  (∀(i:Nat)(a:V×V),d[i]? =I a->a.1.nc=U/\a.2.gU=U)/\(∀(i:Nat)(e:MapEntry),c[i]? =I e->e.born=i):=by
 cases x with
 |map _ l n y z=>
  obtain⟨p,q,r,c,clock,s,h,j,t⟩:=v.dI id l _ n u;subst t;have xP:∀(i:Nat)(a:V×V),d[i]? =I a->∃e,c[i]? =I e:=λi a k=>by
   have:i<c.size:=by rw[h];exact(az.1 k).1
   exact⟨c[i],by simp[this]⟩
  refine⟨l,c,n,q,r,p,rfl,s,⟨by simpa using h,λi e a f g=>?_⟩,λi a g=>?_,λi e f=>?_⟩
  . have:=j i e a (by simpa using f) g;exact⟨this.2.2.1,this.2.2.2.1⟩
  . obtain⟨e,f⟩:=xP i a g;have:=j i e a f g;exact⟨this.1,this.2.1⟩
  . have k:i<d.length:=by rw[<-h];exact(jC.1 f).1
    exact(j i e d[i] f (cG k)).2.2.2.2
theorem Y2(X:Good w Γ M)(ae:dB w Γ s a.tmps){t C e:TypeId}{m k:Operand}{K A:aA}{ok:Bool}{c:en}{z:V}(Y:o.op=.lookup t m k ok)(J:P.underlying t=I (.map C e))(au:bJ m=I K)(ap:bJ k=I A)
 (B:k2 P C=I c)(ay:jb P e=I [z])(Q:tZ P e=U)(h:lJ c [z] ad ok (aw s K) (aw s A) M=I v):gj P w Γ a o v:=by
 have F:=du ae au;have D:=du ae ap;obtain⟨L,aa,ab⟩:=MG ay Q;simp only[lJ,wW] at h;have H:iW c (aw s A)=U:=by
  cases u:iW c (aw s A) with
  |true=>rfl
  |false=>simp[kv,u] at h
 have fin:∀(n:Array MapEntry)(r:Option V),kv c M (aw s K) (aw s A)=I r->
  (a.eval m=.map ag/\n=#[]∨∃b clock,a.eval m=.map (I b)/\∀d,Below w.heap.size w d->d.heap[b]? =I (.map n clock))->
  (r=ag/\(∀d,(Instr.findKey C (a.eval k) n.toList).run P d=.ok ag d)∨∃y j aw,r=I y/\(∀d,(Instr.findKey C (a.eval k) n.toList).run P d=.ok (I (j,aw)) d)/\a_ w Γ y aw)->gj P w Γ a o v:=by
  intro n r av ao f;rw[av] at h;have run:∀q d,(Instr.findKey C (a.eval k) n.toList).run P d=.ok q d->Below w.heap.size w d->(Instr.lookup t (a.eval m) (a.eval k) ok).run P d=
   .ok (match q with|some (_,v)=>(if ok then .tuple #[v,.bool U] else v)|none=>(if ok then .tuple #[L,.bool ad] else L)) d:=by
   intro q d al u;unfold Instr.lookup;rcases ao with⟨E,rfl⟩|⟨b,clock,E,G⟩
   . have Z:(Instr.findKey C (a.eval k) []).run P d=.ok q d:=al;cases q with
     |none=>simp[dC J,Result.andThen,E,qz B _ H D,Z,aa]
     |some q=>simp[dC J,Result.andThen,E,qz B _ H D,Z]
   . cases q with
     |none=>simp[dC J,Result.andThen,E,Go.MapKept.run_getObj_map (G d u),qz B _ H D,al,aa]
     |some q=>simp[dC J,Result.andThen,E,Go.MapKept.run_getObj_map (G d u),qz B _ H D,al]
  rcases f with⟨rfl,f⟩|⟨y,j,ah,rfl,f,af⟩
  . simp only[aC] at h;subst h;refine⟨if ok then .tuple #[L,.bool ad] else L,?_,λd u=>by simp[execOp,Y,run _ _ (f d) u]⟩;cases ok with
    |false=>exact ab w Γ
    |true=>
     refine .tuple _ _ rfl λj x p=>?_;match j with
     |0=>simp at p;subst p;exact ab w Γ
     |1=>simp at p;subst p;exact .bool _
     |j+2=>simp at p
  . simp only[aC] at h;subst h;refine⟨if ok then .tuple #[ah,.bool U] else ah,?_,λd u=>by simp[execOp,Y,run _ _ (f d) u]⟩;cases ok with
    |false=>exact af
    |true=>
     refine .tuple _ _ rfl λj x p=>?_;match j with
     |0=>simp at p;subst p;exact af
     |1=>simp at p;subst p;exact .bool _
     |j+2=>simp at p
 cases f:kv c M (aw s K) (aw s A) with
 |none=>rw[f] at h;simp at h
 |some r=>
  have W:=f;unfold kv at f;obtain⟨_,f⟩:=nQ f;split at f
  . rename_i R;rw[R] at F;simp only[aC] at f;subst f;have:a.eval m=.map ag:=by generalize a.eval m=q at F;cases F;rfl
    refine fin #[] ag W (.inl ⟨this,rfl⟩) (.inl ⟨rfl,λd=>?_⟩);rcases xb B D [] [] ⟨rfl,λi e aH aj=>by simp at aj⟩ rfl with⟨_,g⟩|⟨j,e,g,_⟩
    . exact g d
    . simp[gs] at g
  . rename_i id R;rw[R] at F;split at f
    . rename_i n ak;obtain⟨aq,rfl⟩:=ef f;obtain⟨l,S,Q,ax,aF,u,an,G,T,aG,_⟩:=xx X ak F;have ar:=X.j0 Q ax;refine fin S _ W (.inr ⟨l.b,n.length,an,λd am=>by rw[am.block _ ar];exact G⟩) ?_;rcases xb B D S.toList n T aq with⟨N,O⟩|⟨j,e,N,O,aE,ai⟩
      . exact .inl ⟨((sx n 0).1 N).1,O⟩
      . obtain⟨az,y,aB,aD,_,_⟩:=(sx (c:=c) (key:=aw s A) n 0).2 j (by simpa using N);exact .inr ⟨y,j,e.val,aD,ai,(T.2 j e (az,y) O aB).2⟩
    . cases f
  . cases f
def vA(j:Good w Γ M){id:Nat}{p a:List (V×V)}{l:Loc}{n c:Array MapEntry}(k:Γ.cf[id]? =I l)(m:l.live=U)(t:l.box=U)(h:∀o,¬Γ.S l.b o)(u:w.heap[l.b]? =I (.map n p.length))
 (x:c.size=a.length)(s:∀(i:Nat)(e:MapEntry)(d:V×V),c[i]? =I e->a[i]? =I d->d.1.nc=U/\d.2.gU=U/\a_ w Γ d.1 e.key/\a_ w Γ d.2 e.val/\e.born=i):
 Good {w with heap:=w.heap.setIfInBounds l.b (.map c a.length)} Γ (M.set id (.map a))/\Ext w Γ {w with heap:=w.heap.setIfInBounds l.b (.map c a.length)} Γ:=by
 have g:=Go.MapKept.heap_set (o':=Obj.map c a.length) u;have f:Ext w Γ {w with heap:=w.heap.setIfInBounds l.b (.map c a.length)} Γ:=Ext.write j k g.2 (by simp) rfl rfl rfl (λy v=>aJ v (h y));exact⟨j.write k m f g.2 ⟨t,m,h,c,a.length,g.1,x,λi e d q r=>by obtain⟨z,A,B,C,D⟩:=s i e d q r;exact⟨z,A,B.ext f,C.ext f,D⟩,rfl⟩,f⟩
def EG{d:Array MapEntry}{b:List (V×V)}(m:pq w Γ d.toList b)(p:∀(i:Nat)(a:V×V),b[i]? =I a->a.1.nc=U/\a.2.gU=U)(n:∀(i:Nat)(e:MapEntry),d[i]? =I e->e.born=i)
 {key x:V}{g h:Value}(o:key.nc=U)(q:x.gU=U)(v:a_ w Γ key g)(y:a_ w Γ x h):
 (d.push {key:=g,val:=h,born:=b.length}).size=(b++[(key,x)]).length/\∀(i:Nat)(e:MapEntry)(a:V×V),(d.push {key:=g,val:=h,born:=b.length})[i]? =I e->(b++[(key,x)])[i]? =I a->
   a.1.nc=U/\a.2.gU=U/\a_ w Γ a.1 e.key/\a_ w Γ a.2 e.val/\e.born=i:=by
 have j:d.size=b.length:=by simpa using m.1
 refine⟨by simp[j],λi l a c f=>?_⟩;rw[Array.getElem?_push] at c;split at c
 . rename_i k;simp only[aC] at c;subst c;rw[k,j,List.getElem?_concat_length] at f;simp only[aC] at f;subst f;exact⟨o,q,v,y,by rw[k,j]⟩
 . have k:i<d.size:=(jC.1 c).1;rw[et J] at f;obtain⟨r,s⟩:=p i a f;obtain⟨t,u⟩:=m.2 i l a (by simpa using c) f;exact⟨r,s,t,u,n i l c⟩
def zL{c:Array MapEntry}{d:List (V×V)}(o:pq w Γ c.toList d)(s:∀(i:Nat)(a:V×V),d[i]? =I a->a.1.nc=U/\a.2.gU=U)(m:∀(i:Nat)(e:MapEntry),c[i]? =I e->e.born=i)
 {j:Nat}{e:MapEntry}(k:c[j]? =I e)(f:MapEntry->MapEntry)(p:(f e).born=e.born){key x:V}(r:key.nc=U)(t:x.gU=U)(A:a_ w Γ key (f e).key)(B:a_ w Γ x (f e).val):
 (c.modify j f).size=(d.set j (key,x)).length/\∀(i:Nat)(e:MapEntry)(a:V×V),(c.modify j f)[i]? =I e->(d.set j (key,x))[i]? =I a->
   a.1.nc=U/\a.2.gU=U/\a_ w Γ a.1 e.key/\a_ w Γ a.2 e.val/\e.born=i:=by
 have n:c.size=d.length:=by simpa using o.1
 refine⟨by simp[n],λi l a b g=>?_⟩;have q:j<d.length:=by rw[<-n];exact(jC.1 k).1
 rw[Array.getElem?_modify] at b;split at b
 . rename_i h;subst h;rw[k] at b;simp only[jE,aC] at b;subst b;rw[bY q] at g;simp only[aC] at g;subst g;exact⟨r,t,A,B,by rw[p];exact m j e k⟩
 . rename_i h;rw[bo h] at g;obtain⟨u,v⟩:=s i a g;obtain⟨y,z⟩:=o.2 i l a (by simpa using b) g;exact⟨u,v,y,z,m i l b⟩
def Lm{c:en}{key:V}(d:iW c key=U){a:Value}(e:a_ w Γ key a)(b:World):(Instr.keyThatStays a a).run P b=.ok a b:=by simp[Instr.keyThatStays,acc d e]
def Zo(F:Good w Γ M)(ae:dB w Γ s a.tmps){t aa e:TypeId}{m k x:Operand}{ab i p:aA}{c:en}{J:Mem}(V:o.op=.mapUpdate t m k x)(X:P.underlying t=I (.map aa e))(an:bJ m=I ab)(al:bJ k=I i)(ao:bJ x=I p)
 (D:k2 P aa=I c)(h:t2 c (aw s ab) (aw s i) (aw s p) M=I (v,J)):gP P w Γ a o v J:=by
 have af:=du ae an;have n:=du ae al;have ah:=du ae ao;unfold t2 at h;split at h
 . rename_i ap f;simp only[aC,dh] at h;obtain⟨rfl,rfl⟩:=h;unfold AF at f;split at f
   . rename_i id aS;rw[aS] at af;split at f
     . rename_i d ak;obtain⟨N,rfl⟩:=ef f;simp only[bL] at N;obtain⟨⟨r,am⟩,Z⟩:=N;obtain⟨l,q,T,Y,L,Q,R,g,E,W,O⟩:=xx F ak af;have S:=I0 r;rcases xb D n q.toList d E am with⟨A,B⟩|⟨j,e,A,B,aj,ai⟩
       . have C:=((sx d 0).1 A).2;obtain⟨G,H⟩:=EG E W O S Z n ah;rw[C];obtain⟨u,z⟩:=vA F T Y Q L g G H;refine⟨.skip,_,Γ,?_,.inr ⟨rfl,rfl⟩,u,z⟩;have:(d++[(aw s i,aw s p)]).length=d.length+1:=by simp
         rw[this];have run:(Instr.mapUpdate t (a.eval m) (a.eval k) (a.eval x)).run P w=.ok () {w with heap:=w.heap.setIfInBounds l.b (.map (q.push {key:=a.eval k,val:=a.eval x,born:=d.length}) (d.length+1))}:=by unfold Instr.mapUpdate;simp[dC X,Result.andThen,R,Go.MapKept.run_getObj_map g,qz D _ r n,B w,Go.MapKept.run_setObj_map _ g]
         simp[execOp,V,run]
       . obtain⟨ar,y,aq,_,_,C⟩:=(sx (c:=c) (key:=aw s i) d 0).2 j (by simpa using A);have K:q[j]? =I e:=by simpa using B
         obtain⟨G,H⟩:=zL (x:=aw s p) (key:=aw s i) E W O K (λe=>{e with key:=a.eval k,val:=a.eval x}) rfl S Z n ah;rw[C];obtain⟨u,z⟩:=vA F T Y Q L g G H;refine⟨.skip,_,Γ,?_,.inr ⟨rfl,rfl⟩,u,z⟩;have:(d.set j (aw s i,aw s p)).length=d.length:=by simp
         rw[this];have run:(Instr.mapUpdate t (a.eval m) (a.eval k) (a.eval x)).run P w=.ok () {w with heap:=w.heap.setIfInBounds l.b (.map (q.modify j λe=>{e with key:=a.eval k,val:=a.eval x}) d.length)}:=by unfold Instr.mapUpdate;simp[dC X,Result.andThen,R,Go.MapKept.run_getObj_map g,qz D _ r n,ai w,K,aj,Lm r n,Go.MapKept.run_setObj_map _ g]
         simp[execOp,V,run]
     . cases f
   . cases f
 . cases h
def Zj(J:Good w Γ M)(ae:dB w Γ s a.tmps){t ai e:TypeId}{m k:Operand}{aj g:aA}{c:en}{z:V}{Q:Mem}(Z:o.op=.mapEntry t m k)(aa:P.underlying t=I (.map ai e))(ax:bJ m=I aj)(ar:bJ k=I g)
 (H:k2 P ai=I c)(aB:jb P e=I [z])(av:tZ P e=U)(aE:z.gU=U)(h:p1 c z (aw s aj) (aw s g) M=I (v,Q)):gP P w Γ a o v Q:=by
 have ak:=du ae ax;have i:=du ae ar;obtain⟨O,aD,af⟩:=MG aB av;unfold p1 at h;split at h
 . rename_i id aS;rw[aS] at ak;split at h
   . rename_i d aq;obtain⟨S,h⟩:=nQ h;simp only[bL] at S;obtain⟨C,au⟩:=S;obtain⟨l,q,Y,ab,R,T,W,f,B,K,G⟩:=xx J aq ak;have X:=I0 C;have xP:∀{dD:World}{an:Env}{y:V}{am:Value}(n:Nat),a_ dD an y am->a_ dD an (.tuple [y,.int .i64 n]) (.tuple #[am,.int .i64 n]):=λn ay=>by
      refine .tuple _ _ rfl λj x p=>?_;match j with
      |0=>simp at p;subst p;exact ay
      |1=>simp at p;subst p;exact .int _ _
      |j+2=>simp at p
     rcases xb H i q.toList d B au with⟨u,A⟩|⟨j,e,u,A,ap,ao⟩
     . rw[u] at h;simp only[aC,dh] at h;obtain⟨rfl,rfl⟩:=h;obtain⟨L,N⟩:=EG B K G X aE i (af w Γ);obtain⟨D,r⟩:=vA J Y ab T R f L N;refine⟨.value (.tuple #[O,.int .i64 d.length]),_,Γ,?_,.inl ⟨_,rfl,xP _ (af _ _)⟩,D,r⟩;have:(d++[(aw s g,z)]).length=d.length+1:=by simp
       rw[this];have run:(Instr.mapEntry t (a.eval m) (a.eval k)).run P w=.ok (.tuple #[O,.int .i64 d.length]) {w with heap:=w.heap.setIfInBounds l.b (.map (q.push {key:=a.eval k,val:=O,born:=d.length}) (d.length+1))}:=by unfold Instr.mapEntry;simp[dC aa,Result.andThen,W,Go.MapKept.run_getObj_map f,qz H _ C i,A w,aD,Go.MapKept.run_setObj_map _ f,goInt]
       simp[execOp,Z,run]
     . rw[u] at h;obtain⟨ah,y,F,_,_,_⟩:=(sx (c:=c) (key:=aw s g) d 0).2 j (by simpa using u);simp only[F,jE,aC,dh] at h;obtain⟨rfl,rfl⟩:=h;have E:q[j]? =I e:=by simpa using A
       have al:=(B.2 j e (ah,y) A F).2;have az:=(K j (ah,y) F).2;obtain⟨L,N⟩:=zL (x:=y) (key:=aw s g) B K G E (λe=>{e with key:=a.eval k}) rfl X az i al;obtain⟨D,r⟩:=vA J Y ab T R f L N;refine⟨.value (.tuple #[e.val,.int .i64 j]),_,Γ,?_,.inl ⟨_,rfl,xP _ (al.ext r)⟩,D,r⟩;have:(d.set j (aw s g,y)).length=d.length:=by simp
       rw[this];have run:(Instr.mapEntry t (a.eval m) (a.eval k)).run P w=.ok (.tuple #[e.val,.int .i64 j]) {w with heap:=w.heap.setIfInBounds l.b (.map (q.modify j λe=>{e with key:=a.eval k}) d.length)}:=by unfold Instr.mapEntry;simp[dC aa,Result.andThen,W,Go.MapKept.run_getObj_map f,qz H _ C i,ao w,E,ap,Lm C i,Go.MapKept.run_setObj_map _ f,goInt,G j e E]
       simp[execOp,Z,run]
   . cases h
 . cases h
theorem EV:∀(l:List MapEntry)(n i:Nat),(∀(j:Nat)(e:MapEntry),l[j]? =I e->e.born=n+j)->i<l.length->l.findIdx? (λe=>(e.born:Int)==((n+i:Nat):Int))=I i
 |[],n,i,_,h=>by simp at h
 |e::l,n,i,b,h=>by
  have a:=b 0 e rfl;rw[List.findIdx?_cons];cases i with
  |zero=>simp[a]
  |succ i=>
   have g:=EV l (n+1) i (λj e d=>by have:=b (j+1) e (by simpa using d);omega) (by simpa using h);have f:((e.born:Int)==((n+(i+1):Nat):Int))=ad:=by simp[a];omega
   rw[f];have c:((n+(i+1):Nat):Int)=((n+1+i:Nat):Int):=J;rw[c,g];rfl
def Ts(A:Good w Γ M)(ae:dB w Γ s a.tmps){t:TypeId}{m st x:Operand}{D G g:aA}{u:Mem}(Y:o.op=.entryStore t m st x)(X:bJ m=I D)(Z:bJ st=I G)(af:bJ x=I g)
 (h:r6 (aw s D) (aw s G) (aw s g) M=I (v,u)):gP P w Γ a o v u:=by
 have E:=du ae X;have F:=du ae Z;have al:=du ae af;unfold r6 at h;split at h
 . rename_i id ah i aS T;rw[aS] at E;rw[T] at F;split at h
   . rename_i d L;obtain⟨p,h⟩:=nQ h;simp only[bL,cZ] at p;obtain⟨l,c,W,ab,N,O,Q,r,q,C,z⟩:=xx A L E;simp only[cL,dh] at h;obtain⟨⟨f,y⟩,n,rfl,rfl⟩:=h;have R:c.size=d.length:=by simpa using q.1
     have B:i.toNat<c.size:=by rw[R];exact(az.1 n).1
     have k:c[i.toNat]? =I c[i.toNat]:=by simp[B]
     have ak:=(q.2 i.toNat c[i.toNat] (f,y) (by rw[<-Array.getElem?_toList] at k;exact k) n).1;obtain⟨ai,aj⟩:=zL (x:=aw s g) (key:=f) q C z k (λe=>{e with val:=a.eval x}) rfl (C i.toNat (f,y) n).1 p.2 ak al;obtain⟨J,K⟩:=vA A W ab O N r ai aj;refine⟨.skip,_,Γ,?_,.inr ⟨rfl,rfl⟩,J,K⟩;have:(d.set i.toNat (f,aw s g)).length=d.length:=by simp
     rw[this];have aa:a.eval st=.int ah i:=ih F;have S:c.findIdx? (λe=>(e.born:Int)==i)=I i.toNat:=by
      have:=EV c.toList 0 i.toNat (λj e V=>by rw[z j e (by simpa using V)];omega) (by simpa using B);rw[dm,fr p.1] at this;have H:c=c.toList.toArray:=by simp
      rw[H,List.findIdx?_toArray];exact this
     have run:(Instr.entryStore t (a.eval m) (a.eval st) (a.eval x)).run P w=.ok () {w with heap:=w.heap.setIfInBounds l.b (.map (c.modify i.toNat λe=>{e with val:=a.eval x}) d.length)}:=by unfold Instr.entryStore;simp[Result.andThen,Q,Go.MapKept.run_getObj_map r,aa,asInt,asIntOf,S,Go.MapKept.run_setObj_map _ r]
     simp[execOp,Y,run]
   . cases h
 . cases h
end
section
variable{P:Program}{w:World}{Γ:Env}{M:Mem}{s:av}{a:Act}{o:Oper}{v:V}
theorem J3:∀(b:List (List V))(a:List (List V))(i:Nat),(iI a i b).length=a.length
 |[],a,i=>rfl
 |r::b,a,i=>by simp[iI,J3 b]
theorem J2:∀(a:List (List V))(b:List (List V))(i j:Nat),i+a.length<=b.length->(iI b i a)[j]? =if i<=j/\j<i+a.length then a[j -i]? else b[j]?
 |[],b,i,j,_=>by simp[iI];intro _ _;omega
 |r::a,b,i,j,h=>by
  simp only[cc] at h;rw[iI,J2 a _ _ _ (by simp;omega)];by_cases c:i+1<=j/\j<i+1+a.length
  . rw[aF c,aF (by simp only[cc];omega)];rw[show j -i=(j -(i+1))+1 by omega,List.getElem?_cons_succ]
  . rw[ax c];by_cases d:j=i
    . subst d;rw[aF (by simp only[cc];omega),hA,hg,bY J]
    . rw[ax (by simp only[cc];omega),bo J]
def yg(n:Nat):V->V
 |.slice a _=>.slice (a.take n) .bF
 |.an id ver start _=>.an id ver start n
 |v=>v
def adx{x:V}{p:Option Addr}{len cap:Nat}(d:a_ w Γ x (.slice p len cap)){k:Nat}{A:List (List V)}(h:dg k M x=I A){n:Nat}(q:n<=A.length)(af:0<n):
 a_ w Γ (yg n x) (.slice p n cap)/\dg k M (yg n x)=I (A.take n):=by
 unfold dg at h;split at h
 . rename_i f c;obtain⟨O,rfl⟩:=ef h;generalize m:Value.slice p len cap=E at d;cases d with
   |hf=>simp at q;omega
   |jv=>simp at q;omega
   |slice _ _ b of z aa D H ai K Z Y L T W=>
    simp only[Value.slice.injEq] at m;obtain⟨rfl,rfl,rfl⟩:=m;have o:(f.take n).length=n:=by simp;omega
    have get:∀(i:Nat)(r:List V),(f.take n)[i]? =I r->f[i]? =I r:=λi r a=>by
     have s:i<n:=by have:=(az.1 a).1;omega
     rwa [fT s] at a
    have B:=a_.slice (w:=w) (Γ:=Γ) (f.take n) .bF b of z cap D (by simp) (by simp) (by rw[o];omega) (λi r a=>Z i r (get i r a)) (λi j s t=>Y i j J t) (λi j s t=>L i j J t) (λi r j x a d=>T i r j x (get i r a) d) (λi r j x a d=>W i r j x (get i r a) d);rw[o] at B;refine⟨B,?_⟩;have:dP k (f.take n)=U:=by
     cases f with
     |nil=>simp[dP]
     |cons r f=>cases n with
      |zero=>omega
      |succ n=>exact O
    simp[yg,dg,this]
 . rename_i id ver start v;split at h
   . rename_i z y C ae G;cases g:(z==k&&C==ver&&decide (start+v<=y.length)) with
     |false=>rw[g] at h;simp at h
     |true=>
      rw[g] at h;simp only[bi,aC] at h;subst h;simp only[bL,beq_iff_eq,cZ] at g;have P:((y.drop start).take v).length=v:=by simp;omega
      rw[P] at q;generalize m:Value.slice p len cap=E at d;cases d with
      |an _ _ _ _ l o R _ X H=>
       subst m;refine⟨.an id ver start n l o R _ (λe=>?_) rfl,?_⟩
       . rcases X e with⟨ah,ak,u⟩|⟨Q,K,of,ab,u,N,aj,S⟩
         . omega
         . simp only[Value.slice.injEq] at u;obtain⟨rfl,rfl,rfl⟩:=u;exact .inr ⟨Q,J,of,_,rfl,N,J,S⟩
       . have F:(z==k&&C==ver&&decide (start+n<=y.length))=U:=by simp[g.1.1,g.1.2];omega
         simp only[yg,dg,G,F,bi,aC];rw[List.take_take,Nat.min_eq_left q]
   . cases h
 . cases h
def SS(y:Good w Γ M)(ae:dB w Γ s a.tmps){d x:Operand}{ar aN:aA}{t ai e:TypeId}{n:Nat}{aq:Mem}(aa:o.op=.call ⟨.builtin .copy,#[d,x],#[t,ai]⟩) (al:P.underlying t=I (.slice e)) (Z:d3 P e=I n) (a4:bJ d=I ar) (bi:bJ x=I aN)
 (h:kr n (aw s ar) (aw s aN) M=I (v,aq)):gP P w Γ a o v aq:=by
 have ao:=du ae a4;have ap:=du ae bi;unfold kr at h;split at h
 . rename_i id ver start len b aS aK;rw[aS] at ao;split at h
   . rename_i z m aL H F;obtain⟨aG,h⟩:=nQ h;simp only[aC,dh] at h;obtain⟨rfl,rfl⟩:=h;simp only[bL,beq_iff_eq,cZ] at aG;obtain⟨⟨⟨Q,bh⟩,bC⟩,a6⟩:=aG;obtain⟨p,cap,bu,L,_,_⟩:=sK (P:=P) y ap aK;have bq:∃g:List Value,kb w Γ n (b.take len) g/\(Builtin.firstCells n (min b.length len) (a.eval x)).run P w=.ok g.toArray w:=by
      rcases Nat.eq_zero_or_pos (min b.length len) with k|k
      . have D:b.take len=[]:=by
         apply List.eq_nil_of_length_eq_zero;rw[fh];omega
        refine⟨[],?_,?_⟩
        . rw[D];exact⟨by simp,λi r u=>by simp at u,λi r j x u=>by simp at u⟩
        . rw[k,L];cases p with
          |none=>simp[Builtin.firstCells]
          |some p=>simp[Builtin.firstCells,loadCells,loadCellsFrom]
      . rw[L] at ap;obtain⟨bn,bp⟩:=adx (n:=min b.length len) ap aK J k;obtain⟨bI,br,g,bv,au,aO⟩:=sK (P:=P) y bn bp;have aP:b.take (min b.length len)=b.take len:=by
         rw[Nat.min_comm,<-List.take_take,eS (bk b.length)]
        rw[aP] at au;refine⟨g,au,?_⟩;have R:=aO w rfl;have aQ:(b.take (min b.length len)).length=min b.length len:=by simp
        rw[aQ] at R;rw[L];cases p with
        |none=>simpa[Builtin.firstCells] using R
        |some p=>simpa[Builtin.firstCells] using R
     obtain⟨g,B,af⟩:=bq;have ah:=af;rw[Nat.min_comm] at ah;have bj:(b.take len).length=min b.length len:=by rw[fh];omega
     have Y:(Builtin.lenOf (a.eval x)).run P w=.ok b.length w:=by rw[L];simp[Builtin.lenOf]
     have bF:Nat.min b.length len=min b.length len:=rfl;generalize S:a.eval d=bs at ao;cases ao with
     |an _ _ _ _ l X bE _ bg _=>
      obtain⟨aY,k,ay,a0,a1,a2,aB,a3,E⟩:=y.dI id l _ X F;rcases bg (by rw[ay,bh]) with⟨bz,a9,V⟩|⟨aH,bw,of,bt,V,bx,bB,ba⟩
      . subst V;subst a9;have D:iI m start (b.take 0)=m:=by simp[iI]
        rw[D];have ak:M.set id (.aj z m aL H)=M:=by
         apply lp;intro i;by_cases f:id=i
         . subst f;rw[bY (az.1 F).1,F]
         . rw[bo f]
        rw[ak];refine⟨.value (.int .i64 (min 0 b.length:Nat)),w,Γ,?_,.inl ⟨_,rfl,.int _ _⟩,y,Ext.refl _ _⟩;rw[Nat.min_zero] at af;simp[execOp,aa,resolve,invoke,builtin,Builtin.copy_,dC al,fP Z,S,Y,af,goInt]
      . subst V;obtain⟨aE,c,T,E,aD,aZ⟩:=E aH;have bb:0<min b.length len->of=start*l.sz:=λbH=>ba J;have W:g.length=min b.length len*l.sz:=by rw[B.1,bj,k,Q]
        have bd:=B.one;have O:min b.length len=0∨start*l.sz+g.length<=c.size:=by
         rcases Nat.eq_zero_or_pos (min b.length len) with q|q
         . exact .inl q
         . right;rw[W,aD,<-gZ];exact hj _ J
        rcases Nat.eq_zero_or_pos (min b.length len) with q|q
        . have D:iI m start (b.take len)=m:=by
           have:b.take len=[]:=List.eq_nil_of_length_eq_zero J;rw[this];rfl
          rw[D];have ak:M.set id (.aj z m aL H)=M:=by
           apply lp;intro i;by_cases f:id=i
           . subst f;rw[bY (az.1 F).1,F]
           . rw[bo f]
          rw[ak];have a5:g=[]:=List.eq_nil_of_length_eq_zero (by rw[W,q,Nat.zero_mul]);subst a5;refine⟨.value (.int .i64 (min len b.length:Nat)),w,Γ,?_,.inl ⟨_,rfl,.int _ _⟩,y,Ext.refl _ _⟩;simp[execOp,aa,resolve,invoke,builtin,Builtin.copy_,dC al,fP Z,S,Y,ah,goInt,storeCells,Nat.min_comm]
        . have bc:=bb q;subst bc;have O:start*l.sz+g.length<=c.size:=O.resolve_left J;obtain⟨aM,aR,K,av,aT,aU,aV,aW⟩:=sR (P:=P) g c (start*l.sz) 0 w E J bd;rw[g_] at K;have bA:H*l.sz<=start*l.sz:=hj _ a6;have N:Ext w Γ aM Γ:=Ext.write y X av aT aU aV aW (λam a_=>by
           refine Bv E K ?_;rw[iy K,iy E];have bD:am<H*l.sz:=(aE am).1 a_;have aI:am<c.size:=J;rw[h9 (by rw[pg];exact aI),h9 aI,n8 _ _ _ _ O,ax J]);have bl:start+(b.take len).length<=m.length:=J;have aJ:=J3 (b.take len) m start;have ab:=λj=>J2 (b.take len) m start j bl;refine⟨.value (.int .i64 (min len b.length:Nat)),aM,Γ,?_,.inl ⟨_,rfl,.int _ _⟩,y.write X aH N av ?_,N⟩
          . simp[execOp,aa,resolve,invoke,builtin,Builtin.copy_,dC al,fP Z,S,Y,ah,goInt,aR,Nat.min_comm]
          . refine⟨aY,k,ay,by rw[aJ];exact a0,by rw[aJ];exact a1,a2,λi G f=>?_,λi G j x f A=>?_,λ_=>⟨aE,_,T,K,by rw[pg];exact aD,λi G j x f A=>?_⟩⟩
            . rw[ab] at f;split at f
              . rw[k,Q];exact B.2.1 _ _ f
              . exact aB i G f
            . rw[ab] at f;split at f
              . exact(B.2.2 _ _ _ _ f A).1
              . exact a3 _ _ _ _ f A
            . rw[ab] at f;rw[n8 _ _ _ _ O];split at f
              . rename_i a7;have a8:j<l.sz:=by rw[k,Q,<-B.2.1 _ _ f];exact(az.1 A).1
                have u:=(B.2.2 _ _ _ _ f A).2.ext N;obtain⟨C,be⟩:∃C,i=start+C:=⟨i -start,J⟩;subst be;have bf:C<min b.length len:=J;have bG:C*l.sz+l.sz<=min b.length len*l.sz:=by rw[<-Nat.succ_mul];exact hj _ bf
                rw[gZ,aF J];rw[Nat.add_sub_cancel_left] at u;rw[show start*l.sz+C*l.sz+j -start*l.sz=C*n+j by rw[k,Q];omega];exact u
              . rename_i a7;have a8:j<l.sz:=by rw[<-aB i G f];exact(az.1 A).1
                have u:=(aZ i G j x f A).ext N;have:¬(start*l.sz<=i*l.sz+j/\i*l.sz+j<start*l.sz+g.length):=by
                 rintro⟨bK,bm⟩;rw[W] at bm;rcases eT i start with h|h
                 . have:i*l.sz+l.sz<=start*l.sz:=by rw[<-Nat.succ_mul];exact hj _ h
                   omega
                 . have aX:start+min b.length len<=i:=J;have:start*l.sz+min b.length len*l.sz<=i*l.sz:=by rw[<-gZ];exact hj _ aX
                   omega
                rw[ax this];exact u
   . cases h
 . cases h
def Good.freeze{id z ver f k:Nat}{y:List (List V)}{l:Loc}(a:Good w Γ M)(p:Γ.cf[id]? =I l)(q:M[id]? =I (.aj z y ver f))(Y:k<=y.length)(v:l.live=U):
 Good w {Γ with S:=λb o=>Γ.S b o∨(b=l.b/\o<k*l.sz)} (M.set id (.aj z y ver (max f k)))/\Ext w Γ w {Γ with S:=λb o=>Γ.S b o∨(b=l.b/\o<k*l.sz)}:=by
 have t:Ext w Γ w {Γ with S:=λb o=>Γ.S b o∨(b=l.b/\o<k*l.sz)}:=
  ⟨λb o ae=>⟨.inl ae,rfl⟩,λi m g=>⟨m,g,bk _,λ_=>rfl,λ_=>rfl⟩,rfl,Below.refl _ _,λb o N ae=>by
    rcases ae with ae|⟨rfl,_⟩
    . exact ae
    . have:=a.ek id l p;omega⟩;refine⟨⟨by rw[cW];exact a.len,λi m B g n=>?_,a.ek,a.inj,λb o ae=>?_,a.bf,a.mH⟩,t⟩
 . have Q:id<M.length:=(az.1 q).1;by_cases u:id=i
   . subst u;rw[bY Q] at n;simp only[aC] at n;subst n;have:m=l:=by rw[show Γ.cf[id]? =I m from g] at p;simpa using p
     subst this;obtain⟨C,A,E,P,F,G,H,K,e⟩:=a.dI id m _ g q;obtain⟨s,c,T,e,L,D⟩:=e v;refine⟨C,A,E,J,F,G,H,K,λ_=>⟨λo=>?_,c,T,e,L,λi r j x R X=>(D i r j x R X).ext t⟩⟩;constructor
     . rintro(ae|⟨_,ae⟩)
       . have:=(s o).1 ae;have O:f*m.sz<=max f k*m.sz:=hj _ (Nat.le_max_left _ _);omega
       . have O:k*m.sz<=max f k*m.sz:=hj _ (Nat.le_max_right _ _);omega
     . intro d;rcases Nat.le_total f k with h|h
       . rw[Nat.max_eq_right h] at d;exact .inr ⟨rfl,d⟩
       . rw[Nat.max_eq_left h] at d;exact .inl ((s o).2 d)
   . rw[bo u] at n;refine(a.dI i m B g n).cj t (λ_=>rfl) (λW o d=>?_);rcases d with d|⟨N,_⟩
     . exact d
     . exact aJ (a.inj i id m l g p W v N).symm u
 . rcases ae with ae|⟨rfl,ae⟩
   . exact a.hx b o ae
   . obtain⟨C,A,E,P,F,G,H,K,e⟩:=a.dI id l _ p q;obtain⟨s,c,T,e,L,D⟩:=e v;have:k*l.sz<=l.cap*l.sz:=hj _ J;exact⟨c.getD o Go.undef,by rw[iy e];exact h9 J⟩
def acD(u:Good w Γ M)(ae:dB w Γ s a.tmps){t e:TypeId}{x h m:Operand}{am D F:aA}{n:Nat}{W:Mem}(N:o.op=.slice t x ag (I h) (I m))(Q:P.underlying t=I (.slice e))(L:d3 P e=I n)(g:bJ x=I am)(ah:bJ h=I D)(aj:bJ m=I F)
 (d:sM n (aw s am) (aw s D) (aw s F) M=I (v,W)):gP P w Γ a o v W:=by
 have R:=du ae g;unfold sM at d;split at d
 . rename_i id ver len aS;rw[aS] at R;split at d
   . rename_i z C a3 aM k p a2 q G ay aB;obtain⟨Z,d⟩:=nQ d;simp only[aC,dh] at d;obtain⟨rfl,rfl⟩:=d;simp only[bL,beq_iff_eq,cZ] at Z;obtain⟨⟨⟨⟨⟨⟨a1,aH⟩,aY⟩,al⟩,aE⟩,a0⟩,aF⟩:=Z;subst aE;generalize ab:a.eval x=aJ at R;cases R with
     |an _ _ _ _ l H aZ _ aG _=>
      obtain⟨aO,aN,aq,aP,aQ,aR,ar,au,av⟩:=u.dI id l _ H G;have K:l.live=U:=a_.wD u H G (by rintro rfl;simp at aF);obtain⟨aU,c,T,ax,aT,ap⟩:=av K;rcases aG (by rw[aq,aH]) with⟨af,_⟩|⟨_,aV,of,X,rfl,aW,aX,aD⟩
      . rw[K] at af;cases af
      . obtain⟨ao,Y⟩:=Good.freeze (k:=p.toNat) u H G J K;have O:(Instr.sliceBounds U len X (ag:Option Value) (I (a.eval h)) (I (a.eval m))).run P w=.ok (0,p.toNat,p.toNat) w:=by
         have:=ri (P:=P) (b:=U) (len:=len) (cap:=X) (l:=0) (h:=p.toNat) (m:=p.toNat) ae (lo:=ag) (lo':=ag) (hi:=I h) (hi':=I D) (mx:=I m) (mx':=I F) rfl (by simp[gt,ah]) (by simp[gt,aj]) (.inr (by simp)) rfl (by simp[dO,ay,gE,al]) (by simp[dO,aB,gE,al]) (c_ _) (bk _) J w;simpa using this
        refine⟨.value (.slice (I ⟨l.b,of,ag⟩) p.toNat p.toNat),w,_,?_,.inl ⟨_,rfl,?_⟩,ao,Y⟩
        . rcases Nat.eq_zero_or_pos p.toNat with B|B
          . rw[B] at O⊢;simp[execOp,N,Instr.sliceAt,Instr.slice,dC Q,ab,O,fP L]
          . have aI:p.toNat≠0:=J;simp[execOp,N,Instr.sliceAt,Instr.slice,dC Q,ab,O,fP L,Addr.add,aI]
        . rcases Nat.eq_zero_or_pos p.toNat with B|B
          . rw[B,List.take_zero];exact .jv _ (by simp) _
          . have ak:=aD J;rw[Nat.zero_mul] at ak;subst ak;have ai:(C.take p.toNat).length=p.toNat:=by rw[fh];omega
            have get:∀(i:Nat)(r:List V),(C.take p.toNat)[i]? =I r->C[i]? =I r:=λi r f=>by
             have A:i<p.toNat:=by have:=(az.1 f).1;omega
             rwa [fT A] at f
            have aa:∀i j,i<p.toNat->j<l.sz->i*l.sz+j<p.toNat*l.sz/\i*l.sz+j<c.size:=λi j A E=>by
             have aK:i*l.sz+l.sz<=p.toNat*l.sz:=by rw[<-Nat.succ_mul];exact hj _ A
             have aL:p.toNat*l.sz<=l.cap*l.sz:=hj _ J;omega
            have:=a_.slice (w:=w) (Γ:={Γ with S:=λb o=>Γ.S b o∨(b=l.b/\o<p.toNat*l.sz)}) (C.take p.toNat) .full l.b 0 l.sz p.toNat (λi j=>c.getD (i*l.sz+j) Go.undef) (by simp) (λ_=>ai.symm) J
             (λi r f=>ar i r (get i r f))
             (λi j A E=>.inr ⟨rfl,by rw[dm];exact(aa i j J E).1⟩)
             (λi j A E=>by rw[dm,iy ax];exact h9 (aa i j J E).2)
             (λi r j x f g=>au i r j x (get i r f) g)
             (λi r j x f g=>(ap i r j x (get i r f) g).ext Y);rw[ai] at this;exact this
   . cases d
 . rename_i C c aS;simp only[cL,dh] at d;obtain⟨y,d,rfl,rfl⟩:=d;refine(Lf (P:=P) (a:=a) (o:=o) u ae (lo:=ag) (hi:=I h) (mx:=I m) (lo':=ag) (hi':=I D) (mx':=I F) N Q L g rfl (by simp[gt,ah]) (by simp[gt,aj]) (.inr (by simp)) ?_).JI u;rw[aS];exact d
 . cases d
def JJ(g:Good w Γ M){x:V}{E:Value}(C:a_ w Γ x E)(y:(execOp a.eval o).run P w=.ok (.value E) w){D:Mem}(e:kg x M=I (v,D)):gP P w Γ a o v D:=by
 unfold kg at e;split at e
 . rename_i id ver len;split at e
   . rename_i z s aA aq p;obtain⟨L,e⟩:=nQ e;simp only[bL,beq_iff_eq,cZ] at L;obtain⟨X,Q⟩:=L;rcases Nat.eq_zero_or_pos len with aj|W
     . subst aj;simp only[Nat.lt_irrefl,decide_false,eE,aC,dh] at e;obtain⟨rfl,rfl⟩:=e;cases C with
       |an _ _ _ _ l m al _ A _=>
        obtain⟨aa,Z,t,ae,af,ah,G,H,K⟩:=g.dI id l _ m p;refine⟨.value _,w,Γ,y,.inl ⟨_,rfl,?_⟩,g,Ext.refl _ _⟩;rcases A (by rw[t,X]) with⟨_,_,rfl⟩|⟨_,_,of,n,rfl,_,_,_⟩
        . exact .hf _ (.inr rfl)
        . exact a_.slice [] .bF l.b of 0 n (λ_ _=>Go.undef) (by simp) (λh=>by cases h) (by simp) (λi r d=>by simp at d) (λi j f=>by simp at f) (λi j f=>by simp at f) (λi r j x d=>by simp at d) (λi r j x d=>by simp at d)
     simp only[be W,bi,aC,dh] at e;obtain⟨rfl,rfl⟩:=e;cases C with
     |an _ _ _ _ l m al _ A _=>
      obtain⟨aa,Z,t,ae,af,ah,G,H,K⟩:=g.dI id l _ m p;have u:l.live=U:=a_.wD g m p (by rintro rfl;simp at Q;omega);obtain⟨au,c,T,ai,ar,ab⟩:=K u;rcases A (by rw[t,X]) with⟨O,_⟩|⟨_,av,of,n,rfl,aw,ax,am⟩
      . rw[u] at O;cases O
      . obtain⟨Y,F⟩:=Good.freeze (k:=len) g m p Q u;refine⟨.value (.slice (I ⟨l.b,of,ag⟩) len n),w,_,y,.inl ⟨_,rfl,?_⟩,Y,F⟩;have ay:0<len:=W;have R:=am J;rw[Nat.zero_mul] at R;subst R;have ak:(s.take len).length=len:=by rw[fh];omega
        have get:∀(i:Nat)(r:List V),(s.take len)[i]? =I r->s[i]? =I r:=λi r d=>by
         have f:i<len:=by have:=(az.1 d).1;omega
         rwa [fT f] at d
        have N:∀i j,i<len->j<l.sz->i*l.sz+j<len*l.sz/\i*l.sz+j<c.size:=λi j f q=>by
         have ao:i*l.sz+l.sz<=len*l.sz:=by rw[<-Nat.succ_mul];exact hj _ f
         have ap:len*l.sz<=l.cap*l.sz:=hj _ J;omega
        have:=a_.slice (w:=w) (Γ:={Γ with S:=λb o=>Γ.S b o∨(b=l.b/\o<len*l.sz)}) (s.take len) .bF l.b 0 l.sz n (λi j=>c.getD (i*l.sz+j) Go.undef) (by simp) (λh=>by cases h) J
         (λi r d=>G i r (get i r d))
         (λi j f q=>.inr ⟨rfl,by rw[dm];exact(N i j J q).1⟩)
         (λi j f q=>by rw[dm,iy ai];exact h9 (N i j J q).2)
         (λi r j x d B=>H i r j x (get i r d) B)
         (λi r j x d B=>(ab i r j x (get i r d) B).ext F);rw[ak] at this;exact this
   . cases e
 . simp only[aC,dh] at e;obtain⟨rfl,rfl⟩:=e;exact⟨_,w,Γ,y,.inl ⟨_,rfl,C⟩,g,Ext.refl w Γ⟩
def JK(c:Good w Γ M)(ae:dB w Γ s a.tmps){x:Operand}{y:aA}{b:Mem}(d:o.op=.move x∨o.op=.assign x)(g:bJ x=I y)(f:kg (aw s y) M=I (v,b)):gP P w Γ a o v b:=by obtain⟨i,h,e⟩:=AR (P:=P) ae d g;exact JJ c h (e w (Below.refl _ _)) f
def YQ(d:Good w Γ M)(ae:dB w Γ s a.tmps){t:TypeId}{x:Operand}{y:aA}{c:Mem}(h:o.op=.load t x)(g:d3 P t=I 1)(e:iw P t=I ad)(j:bJ x=I y)
 (b:qW (aw s y) M=I (v,c)):gP P w Γ a o v c:=by
 unfold qW at b;split at b
 . rename_i v0 f;obtain⟨l,k,i⟩:=Jg (P:=P) d ae h g e j f;exact JJ d k (i w (Below.refl _ _)) b
 . cases b
end
section
variable{P:Program}{w:World}{Γ:Env}{M:Mem}{s:av}{a:Act}{o:Oper}{v:V}
def gm{α β a:Type}{x:Option α}{y:Option β}{f:α->β->a}{z:a}(h:nM x y f=I z):∃p q,x=I p/\y=I q/\z=f p q:=by
 unfold nM at h;split at h
 . simp only[aC] at h;exact⟨_,_,rfl,rfl,h.symm⟩
 . cases h
def uz(P:Program)(w:World)(Γ:Env)(M:Mem)(s:av)(a:Act)(o:Oper)(b:cH):Prop:=
 (b.gb=U->∀v c,kw b s M=I (v,c)->gP P w Γ a o v c)/\
 (b.gb=ad->∀v,gv b s M=I v->gP P w Γ a o v M/\(b.aaQ=U->gj P w Γ a o v))
def gQ(d:Good w Γ M){b:cH}(f:b.gb=ad)(h:∀v,gv b s M=I v->gj P w Γ a o v):uz P w Γ M s a o b:=
 ⟨(λe=>by rw[f] at e;cases e),λ_ v c=>⟨(h v c).JI d,λ_=>h v c⟩⟩
def hR{b:cH}(d:b.gb=U)(h:∀v c,kw b s M=I (v,c)->gP P w Γ a o v c):uz P w Γ M s a o b:=
 ⟨(λ_=>h),(λe=>by rw[d] at e;cases e)⟩
def Kc(r:Good w Γ M)(ae:dB w Γ s a.tmps){op:BinOp}{t af:TypeId}{x y:Operand}{E F:aA}{neg:Bool}(V:o.op=.binOp op t x y af)(aa:bJ x=I E)(ab:bJ y=I F)
 (g:uf P t=U)(m:op=.eql/\neg=ad∨op=.neq/\neg=U){C:Mem}(h:sE neg (aw s E) (aw s F) M=I (v,C)):gP P w Γ a o v C:=by
 have A:=du ae aa;have B:=du ae ab;unfold uf at g;split at g
 . rename_i e X;split at g
   . rename_i n R;have S:n≠0:=by simpa using Nat.pos_iff_ne_zero.1 (of_decide_eq_true g)
     unfold sE at h;split at h
     . rename_i i c j d N O;rw[N] at A;rw[O] at B;split at h
       . rename_i c1 c2 G H;simp only[aC,dh] at h;obtain⟨rfl,rfl⟩:=h;generalize K:a.eval x=aj at A;generalize L:a.eval y=ak at B;cases A with
         |ptr _ _ l z an Y=>
          cases B with
          |ptr _ _ f k ao Z=>
           obtain⟨_,_,_,al,ah,aD,_⟩:=r.dI i l _ z G;obtain⟨_,_,_,am,ai,ba,_⟩:=r.dI j f _ k H;have W:(sameAddr ⟨l.b,c,ag⟩ ⟨f.b,d,ag⟩).run P w=.ok (decide (i=j)&&decide (c=d)) w:=by
            by_cases u:i=j
            . subst u;rw[z] at k;simp only[aC] at k;subst k;by_cases m:c=d
              . subst m;simp[run_sameAddr_same]
              . rw[run_sameAddr_other w (by simpa using m) aD ba];simp[m]
            . have T:l.b≠f.b:=λe=>u (r.inj i j l f z k Y Z e);rw[run_sameAddr_other w (by intro e;exact T (congrArg Addr.block e)) aD ba];simp[u]
           have D:(Op.equalIn (9999+1) t (.pointer (I ⟨l.b,c,ag⟩)) (.pointer (I ⟨f.b,d,ag⟩))).run P w=.ok (decide (i=j)&&decide (c=d)) w:=by rw[Op.equalIn];simp[dC X,fP R,S,W]
           have Q:∀(p q:Operand),(eqGuard op t p q (.pointer (I ⟨l.b,c,ag⟩)) (.pointer (I ⟨f.b,d,ag⟩))).run P w=.ok () w:=λp q=>pQ op t p q _ _ (by simp) (by simp) w;refine⟨.value (.bool ((decide (i=j)&&decide (c=d)) !=neg)),w,Γ,?_,.inl ⟨_,rfl,.bool _⟩,r,Ext.refl _ _⟩;have J:(binOp op t (.pointer (I ⟨l.b,c,ag⟩)) (.pointer (I ⟨f.b,d,ag⟩))).run P w=.ok (.bool ((decide (i=j)&&decide (c=d)) !=neg)) w:=by
            rcases m with⟨rfl,rfl⟩|⟨rfl,rfl⟩
            . show(do pure (.bool (<-Op.equal t _ _)):Sem Value).run P w=_;simp[r9,D]
            . show(do pure (.bool (!(<-Op.equal t _ _))):Sem Value).run P w=_;simp[r9,D]
           simp only[execOp,V,Sem.run_bind,K,L,Q,Result.andThen_ok,J];simp
       . cases h
     . cases h
   . cases g
 . cases g
def wA{b:cH}(d:b.hX=U):uz P w Γ M s a o b:=by
 cases b<;>simp[cH.hX] at d
 . exact⟨(λe=>by cases e),(λ_ v c=>by simp[gv] at c)⟩
 . exact⟨(λe=>by cases e),(λ_ v c=>by simp[gv] at c)⟩
def Q_(j:Good w Γ M)(ae:dB w Γ s a.tmps){L:Bool}{b:Builtin}{args:Array Operand}{z:Array TypeId}{E:cH}(k:o.op=.call ⟨.builtin b,args,z⟩)(h:rf P b args.toList z.toList L=I E):uz P w Γ M s a o E:=by
 have r:∀l:List Operand,args.toList=l->args=l.toArray:=λl B=>by rw[<-B]
 have u:∀l:List TypeId,z.toList=l->z=l.toArray:=λl B=>by rw[<-B]
 unfold rf at h;split at h
 . rename_i x t c g;have c:=r _ c;have g:=u _ g;subst c g;split at h
   . rename_i f;simp only[cL] at h;obtain⟨y,m,rfl⟩:=h;exact gQ j rfl λv d=>Yz ae k f m d
   . rename_i e f;simp only[cL] at h;obtain⟨y,m,rfl⟩:=h;exact gQ j rfl λv d=>Yx j ae k f m d
   . rename_i R u f;simp only[cL] at h;obtain⟨y,m,rfl⟩:=h;exact hR rfl λv D d=>Yw j ae k f m d
   . rename_i n e f;simp only[aC] at h;subst h;exact gQ j rfl λv d=>by simp only[gv,aC] at d;subst d;exact I7 k (.inl f)
   . rename_i N f;split at h
     . rename_i n e K;simp only[aC] at h;subst h;exact gQ j rfl λv d=>by simp only[gv,aC] at d;subst d;exact I7 k (.inr ⟨N,f,K⟩)
     . cases h
   . cases h
 . rename_i x y t ai c g;have c:=r _ c;have g:=u _ g;subst c g;split at h
   . rename_i e G f F;split at h
     . rename_i i O Q H c m;split at h
       . rename_i A;simp only[aC] at h;subst h;simp only[bL,cZ] at A;exact hR rfl λv D d=>Qj j ae k f F H A.1 A.2 c m d
       . cases h
     . cases h
   . cases h
 . rename_i x y t ai c g;have c:=r _ c;have g:=u _ g;subst c g;split at h
   . rename_i e G f F;split at h
     . rename_i n O Q J c m;split at h
       . simp only[aC] at h;subst h;exact hR rfl λv D d=>SS j ae k f J c m d
       . cases h
     . cases h
   . cases h
 . rename_i x y c;have c:=r _ c;subst c;obtain⟨p,q,C,al,rfl⟩:=gm h;exact gQ j rfl λv d=>JB (mx:=U) ae k C al d
 . rename_i x y c;have c:=r _ c;subst c;obtain⟨p,q,C,al,rfl⟩:=gm h;exact gQ j rfl λv d=>JB (mx:=ad) ae k C al d
 . cases h
def Qg(j:Good w Γ M)(ae:dB w Γ s a.tmps){aF aG:Bool}{am:cH}(h:fC P aF aG o.type o.op=I am):uz P w Γ M s a o am:=by
 generalize u:o.op=op at h;cases op<;>simp only[fC,reduceCtorEq] at h
 case move x=>
  split at h
  . simp only[cL] at h;obtain⟨y,B,rfl⟩:=h;exact gQ j rfl λv d=>by simp only[gv,aC] at d;subst d;exact AR ae (.inl u) B
  . simp only[cL] at h;obtain⟨y,B,rfl⟩:=h;exact hR rfl λv D d=>JK j ae (.inl u) B d
 case assign x=>
  split at h
  . split at h
    . rename_i C;split at h
      . simp only[aC] at h;subst h;exact hR rfl λv D d=>JN j u C (by simpa only[kw] using d)
      . simp only[cL] at h;obtain⟨n,_,rfl⟩:=h;exact hR rfl λv D d=>JN j u C (by simpa only[kw] using d)
    . simp only[cL] at h;obtain⟨y,B,rfl⟩:=h;exact hR rfl λv D d=>JK j ae (.inr u) B d
  . simp only[cL] at h;obtain⟨y,B,rfl⟩:=h;exact gQ j rfl λv d=>by simp only[gv,aC] at d;subst d;exact AR ae (.inr u) B
 case pick c x y=>
  split at h
  . rename_i ao L aH F E B;simp only[aC] at h;subst h;exact gQ j rfl λv d=>aaw ae u F E B d
  . cases h
 case alloc e=>simp only[cL] at h;obtain⟨z,J,rfl⟩:=h;exact hR rfl λv D d=>by simp only[kw,wx,aC,dh] at d;obtain⟨rfl,rfl⟩:=d;exact Qd j u J
 case box e x=>obtain⟨n,y,C,B,rfl⟩:=gm h;exact hR rfl λv D d=>Q5 j ae u B d
 case build t dp=>
  split at h
  . rename_i ab z A J;split at h
    . rename_i au;simp only[cL] at h;obtain⟨aj,O,rfl⟩:=h;exact gQ j rfl λv d=>Du ae u J (.inl ⟨ab,A,au,O⟩) d
    . cases h
  . rename_i k e z A J;split at h
    . rename_i n C;simp only[cL] at h;obtain⟨aj,O,rfl⟩:=h;exact gQ j rfl λv d=>Du ae u J (.inr ⟨k,e,n,A,C,O⟩) d
    . cases h
  . cases h
 case buildSlice t len dp=>
  split at h
  . rename_i e A;split at h
    . rename_i n z C J;split at h
      . rename_i F;simp only[bL,beq_iff_eq,cZ] at F;split at h;rotate_left
        . split at h
          . rename_i aA;simp only[cL] at h;obtain⟨aj,O,rfl⟩:=h;exact hR rfl λv D d=>Q8 j ae u A C J F.1.1 (by simpa using aA) F.2 O d
          . cases h
        simp only[cL] at h;obtain⟨aj,O,rfl⟩:=h;refine⟨(λe=>by cases e),λ_ v d=>⟨Q7 j ae u A C J F.1.1 F.1.2 F.2 O d,λal=>by cases al⟩⟩
      . cases h
    . cases h
  . cases h
 case load t x=>
  split at h
  . rename_i n ak y C Q B;split at h
    . simp only[aC] at h;subst h;exact gQ j rfl λv d=>Jg j ae u C Q B d
    . split at h
      . rename_i K;simp only[aC] at h;subst h;simp only[bL,beq_iff_eq,hM] at K;obtain⟨rfl,rfl⟩:=K;exact hR rfl λv D d=>YQ j ae u C Q B d
      . cases h
  . cases h
 case store t x y=>
  split at h
  . rename_i n L aH C E B;simp only[aC] at h;subst h;exact hR rfl λv D d=>by
     simp only[kw,qf] at d;split at d
     . rename_i aJ ar;simp only[aC,dh] at d;obtain⟨rfl,rfl⟩:=d;exact ac_ j ae u C E B ar
     . cases d
  . cases h
 case nilCheck x=>simp only[cL] at h;obtain⟨y,B,rfl⟩:=h;exact gQ j rfl λv d=>Z5 ae u B d
 case binOp op t x y aR=>
  split at h
  . rename_i V;simp only[bL] at V;obtain⟨p,q,Y,al,rfl⟩:=gm h;exact hR rfl λv D d=>Kc j ae u Y al V.2 (.inl ⟨rfl,rfl⟩) d
  . rename_i V;simp only[bL] at V;obtain⟨p,q,Y,al,rfl⟩:=gm h;exact hR rfl λv D d=>Kc j ae u Y al V.2 (.inr ⟨rfl,rfl⟩) d
  . obtain⟨p,q,Y,al,rfl⟩:=gm h;exact gQ j rfl λv d=>QM ae u Y al d
 case unOp op t x=>simp only[cL] at h;obtain⟨y,B,rfl⟩:=h;exact gQ j rfl λv d=>adF ae u B d
 case convert aP aL x=>
  split at h
  . rename_i ah k y A W B;simp only[aC] at h;subst h;exact gQ j rfl λv d=>SR ae u A W B d
  . rename_i y A W B;simp only[aC] at h;subst h;exact gQ j rfl λv d=>SQ ae u A W B d
  . rename_i e y A W B;split at h
    . rename_i av;simp only[aC] at h;subst h;exact gQ j rfl λv d=>Rc j ae u A av W B d
    . cases h
  . cases h
 case makeFunc fn first aK=>
  cases fn<;>simp only[reduceCtorEq] at h;split at h
  . rename_i X;simp only[cL] at h;obtain⟨aI,B,rfl⟩:=h;exact gQ j rfl λv d=>by simp only[gv,aC] at d;subst d;exact ZC ae u X B
  . cases h
 case makeMap t r=>
  split at h
  . rename_i aa aq A;simp only[cL] at h;obtain⟨aO,aB,rfl⟩:=h;exact hR rfl λv D d=>Ze j ae u A aB d
  . cases h
 case lookup t m k ok=>
  split at h
  . rename_i aa e ai ah A G K;split at h
    . rename_i z c J F;obtain⟨N,rfl⟩:=ef h;exact gQ j rfl λv d=>Y2 j ae u A G K F J N d
    . cases h
  . cases h
 case mapUpdate t m k x=>
  split at h
  . rename_i aa e ai ah L A G K E;simp only[cL] at h;obtain⟨c,F,rfl⟩:=h;exact hR rfl λv D d=>Zo j ae u A G K E F d
  . cases h
 case mapEntry t m k=>
  split at h
  . rename_i aa e ai ah A G K;split at h
    . rename_i z c J F;obtain⟨N,rfl⟩:=ef h;simp only[bL] at N;exact hR rfl λv D d=>Zj j ae u A G K F J N.1 N.2 d
    . cases h
  . cases h
 case entryStore t m st x=>
  split at h
  . rename_i ai aQ L G aD E;simp only[aC] at h;subst h;exact hR rfl λv D d=>Ts j ae u G aD E d
  . cases h
 case makeSlice t l c=>
  split at h
  . rename_i e A;split at h
    . rename_i i z aM ao H J N F;split at h
      . rename_i K;simp only[bL,beq_iff_eq,cZ] at K;split at h
        . simp only[aC] at h;subst h;exact hR rfl λv D d=>Ji j ae u A H J K.1.1 K.1.2 N F d
        . simp only[aC] at h;subst h;exact hR rfl λv D d=>Zi j ae u A H J K.1.1 K.1.2 N F d
        . cases h
      . cases h
    . cases h
  . cases h
 case slice t x an H T=>
  split at h
  . rename_i L aE ax A E Z R S;simp only[aC] at h;subst h;have G:T=ag:=by
     cases T with
     |none=>rfl
     |some q=>simp[gt] at S
    subst G;exact gQ j rfl λv d=>acF ae u A E Z R d
  . rename_i e L aE ax aN A E Z R S;split at h
    . simp only[cL] at h;obtain⟨n,C,rfl⟩:=h;have ap:an=ag:=by
       cases an with
       |none=>rfl
       |some q=>simp[gt] at Z
      subst ap;cases H with
      |none=>simp[gt] at R
      |some H=>
       cases T with
       |none=>simp[gt] at S
       |some T=>simp only[gt,cL,aC] at R S;obtain⟨_,aw,rfl⟩:=R;obtain⟨_,G,rfl⟩:=S;exact hR rfl λv D d=>acD j ae u A C E aw G d
    . cases h
    split at h
    . rename_i F;simp only[cL] at h;obtain⟨n,C,rfl⟩:=h;have ay:T=ag∨H≠ag:=by
       cases T with
       |none=>exact .inl rfl
       |some q=>
        cases H with
        |none=>simp at F
        |some r=>exact .inr (by simp)
      exact gQ j rfl λv d=>Lf j ae u A C E Z R S ay d
    . cases h
  . cases h
 case range t x=>
  split at h
  . rename_i aa aq A;simp only[cL] at h;obtain⟨y,B,rfl⟩:=h;exact hR rfl λv D d=>aa0 j ae u A B d
  . cases h
 case next x b=>cases b<;>simp only[cL,reduceCtorEq] at h;obtain⟨y,B,rfl⟩:=h;exact hR rfl λv D d=>by simp[kw] at d
 case entry x=>simp only[cL] at h;obtain⟨y,B,rfl⟩:=h;exact hR rfl λv D d=>Tv j ae u B d
 case fieldAddr t x f=>
  split at h
  . rename_i ab y A B;split at h
    . rename_i g X;split at h
      . rename_i n C;split at h
        . cases h
        . rename_i az;simp only[aC] at h;subst h;exact gQ j rfl λv d=>T_ ae u A X C az B d
      . cases h
    . cases h
  . cases h
 case field t x f=>
  split at h
  . rename_i ab y A B;split at h
    . rename_i g X;split at h
      . rename_i n ak C Q;simp only[aC] at h;subst h;exact gQ j rfl λv d=>Ub ae u A X C Q B d
      . cases h
    . cases h
  . cases h
 case indexAddr t x i=>
  split at h
  . rename_i n e L af A E H;simp only[cL] at h;obtain⟨m,G,rfl⟩:=h;exact gQ j rfl λv d=>XU ae u A G E H d
  . rename_i e L af A E H;simp only[cL] at h;obtain⟨m,G,rfl⟩:=h;exact gQ j rfl λv d=>XX j ae u A G E H d
  . cases h
 case index t x i=>
  split at h
  . rename_i L af A E H;simp only[aC] at h;subst h;exact gQ j rfl λv d=>X1 ae u A E H d
  . rename_i n e L af A E H;split at h
    . rename_i m ak G Q;simp only[aC] at h;subst h;exact gQ j rfl λv d=>X0 ae u A G Q E H d
    . cases h
  . cases h
 case extract x i=>simp only[cL] at h;obtain⟨y,B,rfl⟩:=h;exact gQ j rfl λv d=>TP ae u B d
 case call c=>
  obtain⟨callee,args,aS⟩:=c;cases callee with
  |builtin b=>exact Q_ j ae u h
  |value f=>
   cases f with
   |func f=>simp only[cL] at h;obtain⟨aI,_,rfl⟩:=h;exact wA rfl
   |tmp t=>obtain⟨p,q,_,_,rfl⟩:=gm h;exact wA rfl
   |const c=>obtain⟨p,q,_,_,rfl⟩:=gm h;exact wA rfl
   |global g=>obtain⟨p,q,_,_,rfl⟩:=gm h;exact wA rfl
  |invoke r m=>simp at h
end
end Go.ao
