/- A part of the proof of TopBoard: the abstract machine, the code that the statement reaches, the contracts of its functions. Part 5. The text is made short by a program. -/
import Derived.Test.YtbndjigedmpplaaGreatB4
set_option linter.unusedSimpArgs false
set_option linter.unusedVariables false
set_option linter.unusedSectionVars false
set_option maxHeartbeats 1000000
set_option maxRecDepth 10000
open Bool renaming and_eq_true->cc,and_self->eQ,false_and->oS
open Int renaming toNat_natCast->kU
open List renaming append_assoc->en,append_nil->fA,drop_zero->lW,getElem?_eq_some_iff->bo,getElem?_map->gX,getElem?_set_ne->dv,getElem?_set_self->eB,length_append->dz,length_cons->dC,length_map->eu,length_nil->gY,length_set->eR,mem_append->g9,mem_cons->jt,mem_cons_of_mem->n3,mem_cons_self->pV,mem_of_getElem?->dQ,mem_singleton->gZ,not_mem_nil->mQ,take_add_one->iu,take_length->gB,take_of_length_le->g_
open Nat renaming le_refl->cH,not_lt_zero->e8,zero_add->ee,zero_le->fR
open Option renaming map_eq_some_iff->dK,map_some->lY
open Prod.mk renaming injEq->d_
namespace Go.aL.C
open Go.aL
structure eG where
 run:Int
 cm:Int
 time:Int
def eG.row(v:eG):List V:=[.int .i64 v.run,.int .i64 v.cm,.int .i64 v.time]
namespace wK
def o5(p q:eG):Int:=pK [fM p.time q.time,fM p.run q.run,fM p.cm q.cm]
theorem o6(p q:eG):bT au z3 [.agg p.row,.agg q.row] (fun v=>v=.int .i64 (o5 p q)):=by
 refine bP aFi (by simp[F4]) ?_;simp-implicitDefEqProofs (disch:=omega) only[go_sem,F4,eG.row];refine bV (uO p.time q.time) ?_;simp-implicitDefEqProofs (disch:=omega) only[go_sem];refine bV (uO p.run q.run) ?_;simp-implicitDefEqProofs (disch:=omega) only[go_sem];first|refine b1 (uO p.cm q.cm) ?_|refine bV (uO p.cm q.cm) ?_
 simp-implicitDefEqProofs (disch:=omega) only[go_sem];first|refine b1 (Fa [fM p.time q.time,fM p.run q.run,fM p.cm q.cm] .full (by simp)) ?_|refine bV (Fa [fM p.time q.time,fM p.run q.run,fM p.cm q.cm] .full (by simp)) ?_
 simp-implicitDefEqProofs (disch:=omega) only[go_sem];rfl
structure gi(M:Mem)(x:V)(l:List eG):Prop where
 len:∀L,iA x (M++L)=some (.int .i64 l.length)
 at_:∀(i:Nat)(p:eG),l[i]? =some p->∃a,∀L,iz 3 x (.int .i64 i) (M++L)=some a/\g4 3 true a (M++L)=some (.agg p.row)
 wo:V.under M.length x=true
 own:cq M.length M=true
theorem OY{M:Mem}(h:cq M.length M=true):gi M (.slice [] .nil) []:=⟨fun _=>rfl,fun i p hi=>by simp at hi,rfl,h⟩
theorem OX{M:Mem}{a ver fz:Nat}{l:List eG}(h:cq M.length M=true)(a7:M[a]? =some (.arr 3 (l.map eG.row) ver fz)):gi M (.aZ a ver 0 l.length) l:=by
 have a9:=(bo.1 a7).1;refine⟨fun L=>by simp[iA,bY a7 L],fun i p hi=>?_,by simp[V.under];exact a9,h⟩;have km:=(bo.1 hi).1;have a8:decide (0<=(i:Int))=true:=decide_eq_true (by omega);have aa:decide (i<l.length)=true:=decide_eq_true km;refine⟨.fq a ver i 0,fun L=>⟨?_,?_⟩⟩
 . simp only[iz,a8,cond_true,bY a7 L,beq_self_eq_true,kU,aa,eu,ee,cH,decide_true,eQ,cond_true]
 . simp only[g4,bY a7 L,beq_self_eq_true,cond_true,gX,hi,lY]
   rfl
theorem gi.app{M L:Mem}{x:V}{l:List eG}(h:gi M x l)(cV:cq (M.length+L.length) L=true):gi (M++L) x l:=by
 refine⟨fun K=>by rw[en];exact h.len _,fun i p hi=>?_,?_,?_⟩
 . obtain⟨a,a9⟩:=h.at_ i p hi
   exact⟨a,fun K=>by rw[en];exact a9 _⟩
 . rw[dz];exact wt (by omega) _ h.wo
 . rw[nN,dz,nO (Nat.le_add_right _ _) M h.own,cV];rfl
def lx(l:List eG):Prop:=∀(i j:Nat)(p q:eG),i<j->l[i]? =some p->l[j]? =some q->0<=o5 q p
abbrev iH:V:=.dF z3 []
theorem yq{M:Mem}{x:V}{l:List eG}{i j:Nat}(lS:V)(H:gi M x l)(ak:lx l)(jW:i<j)(ap:j<l.length):
 b9 au Aj [x,.int .i64 i,.int .i64 j,lS,iH] M (fun v ah=>v=.tuple [.int .i64 i,.int .i64 j]/\ah=M):=by
 obtain⟨p,ay⟩:∃p,l[i]? =some p:=⟨l[i]'(by omega),by simp⟩;obtain⟨q,aG⟩:∃q,l[j]? =some q:=⟨l[j],by simp⟩;obtain⟨a,a9⟩:=H.at_ i p ay;obtain⟨b,aj⟩:=H.at_ j q aG;have a9:=a9 [];have aj:=aj [];simp only[fA] at a9 aj;have ar:=ak i j p q jW ay aG;refine bP aGm (by simp[G2]) ?_;simp-implicitDefEqProofs (disch:=omega) only[go_sem,G2,a9.1,a9.2,aj.1,aj.2];first|refine b1 (o6 q p) ?_|refine bV (o6 q p) ?_
 simp-implicitDefEqProofs (disch:=omega) only[go_sem];refine a5 (fun g=>absurd g (by omega)) (fun _=>?_);simp-implicitDefEqProofs (disch:=omega) only[go_sem];rw[gB];exact⟨H.own,rfl⟩
theorem yg{M:Mem}{x:V}{l:List eG}{i j k:Nat}(lS:V)(H:gi M x l)(ak:lx l)(jW:i<j)(vt:j<k)(ao:k<l.length):
 b9 au D8 [x,.int .i64 i,.int .i64 j,.int .i64 k,lS,iH] M (fun v ah=>v=.int .i64 j/\ah=M):=by
 have dy:M.take M.length=M:=gB;refine bP aGk (by simp[G0]) ?_;simp-implicitDefEqProofs (disch:=omega) only[go_sem,G0];refine ho (yq lS H ak jW (by omega)) ?_;simp-implicitDefEqProofs (disch:=omega) only[go_sem];refine ho (yq lS H ak vt ao) ?_;simp-implicitDefEqProofs (disch:=omega) only[go_sem];refine ho (yq lS H ak jW (by omega)) ?_;simp-implicitDefEqProofs (disch:=omega) only[go_sem,dy,H.own]
theorem yf{M:Mem}{x:V}{l:List eG}{j:Nat}(lS:V)(H:gi M x l)(ak:lx l)(a8:0<j)(ao:j+1<l.length)(ag:l.length<=4096):
 b9 au Ah [x,.int .i64 j,lS,iH] M (fun v ah=>v=.int .i64 j/\ah=M):=by
 have dy:M.take M.length=M:=gB;have a4:IntKind.i64.wrap ((j:Int) -1)=((j -1:Nat):Int):=by rw[jG];omega
 have bd:IntKind.i64.wrap ((j:Int)+1)=((j+1:Nat):Int):=by rw[jG];omega
 refine bP aGi (by simp[GY]) ?_;simp-implicitDefEqProofs (disch:=omega) only[go_sem,GY,a4,bd];refine ho (yg lS H ak (by omega) (by omega) ao) ?_;simp-implicitDefEqProofs (disch:=omega) only[go_sem,dy,H.own]
theorem LJ{M:Mem}{x:V}{l:List eG}(H:gi M x l)(ak:lx l)(ag:l.length<=4096)(aK:12<l.length):
 b9 au Jo [x,.int .i64 0,.int .i64 l.length,iH] M (fun v ah=>v=.tuple [.int .i64 ((l.length/4*2:Nat):Int),.int .i64 1]/\ah=M):=by
 have dy:∀L:Mem,(M++L).take M.length=M:=fun L=>jP rfl L;have le:∀L:Mem,decide (M.length<=M.length+L.length)=true:=fun L=>decide_eq_true (by omega);have q:=WI l.length (by omega);have eS:=fun L=>eT M L;have h2:IntKind.i64.wrap (((l.length/4:Nat):Int)*1)=((l.length/4*1:Nat):Int):=by rw[jG];omega
 have jb:IntKind.i64.wrap (((l.length/4:Nat):Int)*2)=((l.length/4*2:Nat):Int):=by rw[jG];omega
 have mK:IntKind.i64.wrap (((l.length/4:Nat):Int)*3)=((l.length/4*3:Nat):Int):=by rw[jG];omega
 have H1:gi (M++[.box [.int .i64 0]]) x l:=H.app (by simp[cq,a1.under,cT,V.under]);refine bP aGe (by simp[GU]) ?_;simp-implicitDefEqProofs (disch:=omega) only[go_sem,GU,q,h2,jb,mK,Int.sub_zero,Int.zero_add];refine a5 (fun _=>?_) (fun g=>absurd g (by omega));simp-implicitDefEqProofs (disch:=omega) only[go_sem];refine a5 (fun g=>?_) (fun g=>?_)
 . simp-implicitDefEqProofs (disch:=omega) only[go_sem]
   refine ho (yf _ H1 ak (by omega) (by omega) ag) ?_;simp-implicitDefEqProofs (disch:=omega) only[go_sem];refine ho (yf _ H1 ak (by omega) (by omega) ag) ?_;simp-implicitDefEqProofs (disch:=omega) only[go_sem];refine ho (yf _ H1 ak (by omega) (by omega) ag) ?_;simp-implicitDefEqProofs (disch:=omega) only[go_sem];refine ho (yg _ H1 ak (by omega) (by omega) (by omega)) ?_;simp-implicitDefEqProofs (disch:=omega) only[go_sem,eS,dy,H.own]
 simp-implicitDefEqProofs (disch:=omega) only[go_sem];refine ho (yg _ H1 ak (by omega) (by omega) (by omega)) ?_;simp-implicitDefEqProofs (disch:=omega) only[go_sem,eS,dy,H.own]
theorem Ou{M:Mem}{x:V}{l:List eG}(H:gi M x l)(ak:lx l)(ag:l.length<=4096)(aK:1<l.length):
 b9 au Js [x,.int .i64 0,.int .i64 l.length,iH] M (fun v ah=>v=.bool true/\ah=M):=by
 have dy:M.take M.length=M:=gB;refine bP aGo (by simp[G4]) ?_;simp-implicitDefEqProofs (disch:=omega) only[go_sem,G4,Int.zero_add];refine lT (fun _ vs N=>N=M/\vs=[x,.int .i64 0,.int .i64 l.length,iH,.int .i64 1,.int .i64 0]) 0 ⟨rfl,rfl⟩ ?_;rintro _ vs N ⟨rfl,rfl⟩;simp-implicitDefEqProofs (disch:=omega) only[go_sem];refine lT (fun m vs du=>du=N/\∃i:Nat,1<=i/\i<=l.length/\m=l.length -i/\vs=[x,.int .i64 0,.int .i64 l.length,iH,.int .i64 i,.int .i64 0]) (l.length -1) ⟨rfl,1,by omega,by omega,rfl,rfl⟩ ?_;rintro m vs du ⟨rfl,i,aa,af,rfl,rfl⟩;simp-implicitDefEqProofs (disch:=omega) only[go_sem];refine a5 (fun g=>?_) (fun g=>?_)
 . have a4:IntKind.i64.wrap ((i:Int) -1)=((i -1:Nat):Int):=by rw[jG];omega
   have bd:IntKind.i64.wrap ((i:Int)+1)=((i+1:Nat):Int):=by rw[jG];omega
   obtain⟨p,ay⟩:∃p,l[i -1]? =some p:=⟨l[i -1]'(by omega),by simp⟩;obtain⟨q,aG⟩:∃q,l[i]? =some q:=⟨l[i]'(by omega),by simp⟩;obtain⟨a,a9⟩:=H.at_ _ p ay;obtain⟨b,aj⟩:=H.at_ _ q aG;have a9:=a9 [];have aj:=aj [];simp only[fA] at a9 aj;have ar:=ak (i -1) i p q (by omega) ay aG;simp-implicitDefEqProofs (disch:=omega) only[go_sem,a4,a9.1,a9.2,aj.1,aj.2];first|refine b1 (o6 q p) ?_|refine bV (o6 q p) ?_
   simp-implicitDefEqProofs (disch:=omega) only[go_sem];refine a5 (fun g=>absurd g (by omega)) (fun _=>?_);simp-implicitDefEqProofs (disch:=omega) only[go_sem,bd];exact uB (l.length -(i+1)) (by omega) ⟨rfl,i+1,by omega,by omega,rfl,rfl⟩
 . have hi:i=l.length:=by omega
   subst hi;simp-implicitDefEqProofs (disch:=omega) only[go_sem];rw[dy];exact⟨H.own,rfl⟩
theorem NP{M:Mem}{x:V}{l:List eG}(H:gi M x l)(ak:lx l)(ag:l.length<=4096):
 b9 au Jq [x,.int .i64 0,.int .i64 l.length,iH] M (fun v ah=>v=.tuple []/\ah=M):=by
 have dy:M.take M.length=M:=gB;refine bP aGg (by simp[GW]) ?_;simp-implicitDefEqProofs (disch:=omega) only[go_sem,GW,Int.zero_add];refine lT (fun m vs du=>du=M/\∃i:Nat,1<=i/\(i<=l.length∨i=1)/\m=l.length -i/\vs=[x,.int .i64 0,.int .i64 l.length,iH,.int .i64 i]) (l.length -1) ⟨rfl,1,by omega,by omega,rfl,rfl⟩ ?_;rintro m vs du ⟨rfl,i,aa,af,rfl,rfl⟩;simp-implicitDefEqProofs (disch:=omega) only[go_sem];refine a5 (fun g=>?_) (fun g=>?_)
 . have a4:IntKind.i64.wrap ((i:Int) -1)=((i -1:Nat):Int):=by rw[jG];omega
   have bd:IntKind.i64.wrap ((i:Int)+1)=((i+1:Nat):Int):=by rw[jG];omega
   obtain⟨p,ay⟩:∃p,l[i -1]? =some p:=⟨l[i -1]'(by omega),by simp⟩;obtain⟨q,aG⟩:∃q,l[i]? =some q:=⟨l[i]'(by omega),by simp⟩;obtain⟨a,a9⟩:=H.at_ _ p ay;obtain⟨b,aj⟩:=H.at_ _ q aG;have a9:=a9 [];have aj:=aj [];simp only[fA] at a9 aj;have ar:=ak (i -1) i p q (by omega) ay aG;simp-implicitDefEqProofs (disch:=omega) only[go_sem];refine lT (fun _ vs N=>N=du/\vs=[x,.int .i64 0,.int .i64 l.length,iH,.int .i64 i,.int .i64 i]) 0 ⟨rfl,rfl⟩ ?_;rintro _ vs N ⟨rfl,rfl⟩;simp-implicitDefEqProofs (disch:=omega) only[go_sem];refine a5 (fun _=>?_) (fun g=>absurd g (by omega));simp-implicitDefEqProofs (disch:=omega) only[go_sem,a4,a9.1,a9.2,aj.1,aj.2];first|refine b1 (o6 q p) ?_|refine bV (o6 q p) ?_
   simp-implicitDefEqProofs (disch:=omega) only[go_sem];refine a5 (fun g=>absurd g (by omega)) (fun _=>?_);simp-implicitDefEqProofs (disch:=omega) only[go_sem,bd];exact uB (l.length -(i+1)) (by omega) ⟨rfl,i+1,by omega,by omega,rfl,rfl⟩
 . simp-implicitDefEqProofs (disch:=omega) only[go_sem]
   rw[dy];exact⟨H.own,rfl⟩
theorem Ov{M:Mem}{x:V}{l:List eG}(x6:Int)(H:gi M x l)(ak:lx l)(ag:l.length<=4096)(Nj:12<l.length->x6≠0):
 b9 au Al [x,.int .i64 0,.int .i64 l.length,.int .i64 x6,iH] M (fun v ah=>v=.tuple []/\ah=M):=by
 have dy:M.take M.length=M:=gB;refine bP aGq (by simp[G6]) ?_;simp-implicitDefEqProofs (disch:=omega) only[go_sem,G6];refine lT (fun _ vs N=>N=M/\vs=[x,.int .i64 0,.int .i64 l.length,.int .i64 x6,iH,.bool true,.bool true]) 0 ⟨rfl,rfl⟩ ?_;rintro _ vs N ⟨rfl,rfl⟩;simp-implicitDefEqProofs (disch:=omega) only[go_sem,Int.sub_zero];refine a5 (fun g=>?_) (fun g=>?_)
 . simp-implicitDefEqProofs (disch:=omega) only[go_sem]
   refine ho (NP H ak ag) ?_;simp-implicitDefEqProofs (disch:=omega) only[go_sem,dy,H.own]
 simp-implicitDefEqProofs (disch:=omega) only[go_sem];refine a5 (fun a2=>absurd a2 (Nj (by omega))) (fun _=>?_);simp-implicitDefEqProofs (disch:=omega) only[go_sem];refine ho (LJ H ak ag (by omega)) ?_;have d1:decide ((1:Int)=2)=false:=rfl;have d2:decide ((1:Int)=1)=true:=rfl;simp-implicitDefEqProofs (disch:=omega) only[go_sem,d1];refine ho (Ou H ak ag (by omega)) ?_;simp-implicitDefEqProofs (disch:=omega) only[go_sem,dy,H.own]
theorem Ld{M:Mem}{x:V}{l:List eG}(H:gi M x l)(ak:lx l)(ag:l.length<256):
 b9 au D6 [x,iH] M (fun v ah=>v=.tuple []/\ah=M):=by
 have dy:M.take M.length=M:=gB;have fY:=H.len [];rw[fA] at fY;have a4:IntKind.u64.wrap (l.length:Int)=l.length:=AW _ (by omega);refine bP aGc (by simp[GR]) ?_;simp-implicitDefEqProofs (disch:=omega) only[go_sem,GR,fY,a4];refine fw (Vx l.length ag) ?_;rintro v ⟨k,rfl,ao⟩;simp-implicitDefEqProofs (disch:=omega) only[go_sem];refine ho (Ov k H ak (by omega) fun _=>ao (by omega)) ?_;simp-implicitDefEqProofs (disch:=omega) only[go_sem,dy,H.own]
end wK
end Go.aL.C
namespace Go.aL.C
open Go.aL
def yp(lo:Int)(len i:Nat)(c:bG):Bool:=c.ha&&(decide ((i:Int)+1<(len:Int))&&(decide (lo<=c.cf)&&decide (c.cf<lo+1)))
def yn(lo:Int)(_ i:Nat)(c:bG):Bool:=c.fC&&(decide (0<(i:Int))&&(decide (lo<=c.cJ)&&decide (c.cJ<lo+1)))
theorem YV(l:List bG)(t:c4)(i:Nat)(c:bG)(lo:Int)(ar:l[i]? =some c)(ag:l.length<=100){M:Mem}{a b:Nat}(a9:M[a]? =some (.box [.int .i64 lo]))(aj:M[b]? =some (.box [.int .i64 (lo+1)]))(dZ:cq M.length M=true):
 b9 au DJ [.slice (l.map bG.row) t,.int .i64 i,.ptr a 0,.ptr b 0] M (fun v ah=>v=.tuple [.int .i64 c.cf,.bool (yp lo l.length i c)]/\ah=M):=by
 have dy:∀L:Mem,(M++L).take M.length=M:=fun L=>jP rfl L;have le:∀L:Mem,decide (M.length<=M.length+L.length)=true:=fun L=>decide_eq_true (by omega);have hi:=(bo.1 ar).1;have c2:=fun L=>bY a9 L;have dw:=fun L=>bY aj L;have fW:=fun L=>eT M L;have s0:=fun L=>jM M L;have gL:IntKind.i64.wrap ((i:Int)+1)=((i:Int)+1):=n1 _ (by omega) (by omega);refine bP aFf (by simp[F1]) ?_;simp-implicitDefEqProofs (disch:=omega) only[go_sem,F1,ar,bG.row,fW,s0];unfold yp;refine ck (fun aT=>?_) (fun aT=>?_);rotate_left
 . simp-implicitDefEqProofs (disch:=omega) only[go_sem,dy,dZ,aT,oS]
 simp-implicitDefEqProofs (disch:=omega) only[go_sem,gL];refine a5 (fun a2=>?_) (fun a2=>?_);rotate_left
 . simp-implicitDefEqProofs (disch:=omega) only[go_sem,dy,dZ,aT,decide_eq_false a2,oS,Bool.and_false]
 simp-implicitDefEqProofs (disch:=omega) only[go_sem,fW,c2];refine a5 (fun bJ=>?_) (fun bJ=>?_);rotate_left
 . simp-implicitDefEqProofs (disch:=omega) only[go_sem,dy,dZ,aT,decide_eq_true a2,decide_eq_false bJ,oS,Bool.and_false]
 simp-implicitDefEqProofs (disch:=omega) only[go_sem,fW,dw,dy,dZ,aT,decide_eq_true a2,decide_eq_true bJ,Bool.true_and]
theorem YD(l:List bG)(t:c4)(i:Nat)(c:bG)(lo:Int)(ar:l[i]? =some c)(ag:l.length<=100){M:Mem}{a b:Nat}(a9:M[a]? =some (.box [.int .i64 lo]))(aj:M[b]? =some (.box [.int .i64 (lo+1)]))(dZ:cq M.length M=true):
 b9 au DI [.slice (l.map bG.row) t,.int .i64 i,.ptr a 0,.ptr b 0] M (fun v ah=>v=.tuple [.int .i64 c.cJ,.bool (yn lo l.length i c)]/\ah=M):=by
 have dy:∀L:Mem,(M++L).take M.length=M:=fun L=>jP rfl L;have le:∀L:Mem,decide (M.length<=M.length+L.length)=true:=fun L=>decide_eq_true (by omega);have hi:=(bo.1 ar).1;have c2:=fun L=>bY a9 L;have dw:=fun L=>bY aj L;have fW:=fun L=>eT M L;have s0:=fun L=>jM M L;refine bP aFd (by simp[FZ]) ?_;simp-implicitDefEqProofs (disch:=omega) only[go_sem,FZ,ar,bG.row,fW,s0];unfold yn;refine ck (fun aT=>?_) (fun aT=>?_);rotate_left
 . simp-implicitDefEqProofs (disch:=omega) only[go_sem,dy,dZ,aT,oS]
 simp-implicitDefEqProofs (disch:=omega) only[go_sem];refine a5 (fun a2=>?_) (fun a2=>?_);rotate_left
 . simp-implicitDefEqProofs (disch:=omega) only[go_sem,dy,dZ,aT,decide_eq_false a2,oS,Bool.and_false]
 simp-implicitDefEqProofs (disch:=omega) only[go_sem,fW,c2];refine a5 (fun bJ=>?_) (fun bJ=>?_);rotate_left
 . simp-implicitDefEqProofs (disch:=omega) only[go_sem,dy,dZ,aT,decide_eq_true a2,decide_eq_false bJ,oS,Bool.and_false]
 simp-implicitDefEqProofs (disch:=omega) only[go_sem,fW,dw,dy,dZ,aT,decide_eq_true a2,decide_eq_true bJ,Bool.true_and]
def oP(tm:bG->Int)(ok:Nat->Nat->bG->Bool)(stop:Int)(ri len:Nat):List bG->Nat->List eG
 |[],_=>[]
 |c::cs,i=>(if(decide (c.stop=stop)&&ok len i c) then[(⟨ri,i,tm c⟩:eG)] else[])++oP tm ok stop ri len cs (i+1)
def ll(tm:bG->Int)(ok:Nat->Nat->bG->Bool)(stop:Int):List bM->Nat->List eG
 |[],_=>[]
 |r::rs,ri=>(if r.gone then[] else oP tm ok stop ri r.calls.length r.calls 0)++ll tm ok stop rs (ri+1)
theorem X_{tm:bG->Int}{ok:Nat->Nat->bG->Bool}{stop:Int}{ri len:Nat}:∀{cs:List bG}{i:Nat},(oP tm ok stop ri len cs i).length<=cs.length
 |[],_=>cH _
 |c::cs,i=>by
  have:=X_ (tm:=tm) (ok:=ok) (stop:=stop) (ri:=ri) (len:=len) (cs:=cs) (i:=i+1);unfold oP;rw[dz,dC];split
  . simp only[List.length_singleton];omega
  . simp only[gY];omega
theorem Pp{tm:bG->Int}{ok:Nat->Nat->bG->Bool}{stop:Int}:∀{rs:List bM}{ri:Nat},(∀r∈rs,r.calls.length<=6)->(ll tm ok stop rs ri).length<=6*rs.length
 |[],_,_=>cH _
 |r::rs,ri,h=>by
  have aa:=Pp (tm:=tm) (ok:=ok) (stop:=stop) (rs:=rs) (ri:=ri+1) fun x ad=>h x (n3 _ ad);have af:=h r (pV ..);have az:=X_ (tm:=tm) (ok:=ok) (stop:=stop) (ri:=ri) (len:=r.calls.length) (cs:=r.calls) (i:=0);unfold ll;rw[dz,dC];split
  . simp only[gY];omega
  . omega
theorem ER{tm:bG->Int}{ok:Nat->Nat->bG->Bool}{stop:Int}{ri len:Nat}:∀{cs:List bG}{i:Nat}{v:eG},v∈oP tm ok stop ri len cs i↔∃j c,cs[j]? =some c/\c.stop=stop/\ok len (i+j) c=true/\v=⟨ri,((i+j:Nat):Int),tm c⟩
 |[],i,v=>by simp[oP]
 |c::cs,i,v=>by
  unfold oP;rw[g9,ER];constructor
  . rintro(h|⟨j,cK,aa,af,az,bh⟩)
    . split at h
      . rename_i ar
        simp only[cc,decide_eq_true_eq] at ar;exact⟨0,c,rfl,ar.1,ar.2,gZ.1 h⟩
      . cases h
    . refine⟨j+1,cK,aa,af,?_,?_⟩
      . rw[show i+(j+1)=i+1+j by omega];exact az
      . rw[show i+(j+1)=i+1+j by omega];exact bh
  . rintro⟨j,cK,aa,af,az,bh⟩
    cases j with
    |zero=>
     cases aa;left;rw[if_pos (by rw[decide_eq_true af,Bool.true_and];exact az)];exact gZ.2 bh
    |succ j=>
     right;refine⟨j,cK,aa,af,?_,?_⟩
     . rw[show i+1+j=i+(j+1) by omega];exact az
     . rw[show i+1+j=i+(j+1) by omega];exact bh
theorem KO{tm:bG->Int}{ok:Nat->Nat->bG->Bool}{stop:Int}:∀{rs:List bM}{ri:Nat}{v:eG},v∈ll tm ok stop rs ri↔∃m r j c,rs[m]? =some r/\r.gone=false/\r.calls[j]? =some c/\c.stop=stop/\ok r.calls.length j c=true/\v=⟨((ri+m:Nat):Int),(j:Int),tm c⟩
 |[],i,v=>by simp[ll]
 |r::rs,i,v=>by
  unfold ll;rw[g9,KO];constructor
  . rintro(h|⟨m,fO,j,cK,aa,af,az,bh,bC,ca⟩)
    . split at h
      . cases h
      . rename_i aB
        obtain⟨j,c,aa,af,az,bh⟩:=ER.1 h;rw[ee] at az bh;exact⟨0,r,j,c,rfl,by simpa using aB,aa,af,az,bh⟩
    . refine⟨m+1,fO,j,cK,aa,af,az,bh,bC,?_⟩
      rw[show i+(m+1)=i+1+m by omega];exact ca
  . rintro⟨m,fO,j,cK,aa,af,az,bh,bC,ca⟩
    cases m with
    |zero=>
     cases aa;left;rw[if_neg (by rw[af];exact Bool.noConfusion)];exact ER.2 ⟨j,cK,az,bh,by rw[ee];exact bC,by rw[ee];exact ca⟩
    |succ m=>
     right;refine⟨m,fO,j,cK,aa,af,az,bh,bC,?_⟩;rw[show i+1+m=i+(m+1) by omega];exact ca
def K6(p q:eG):Prop:=p.time=q.time/\(p.run<q.run∨p.run=q.run/\p.cm<q.cm)
theorem Ya{tm:bG->Int}{ok:Nat->Nat->bG->Bool}{stop lo:Int}(h:∀len i c,ok len i c=true->tm c=lo){ri len:Nat}:∀{cs:List bG}{i:Nat},(oP tm ok stop ri len cs i).Pairwise K6
 |[],_=>List.Pairwise.nil
 |c::cs,i=>by
  unfold oP;refine List.pairwise_append.2 ⟨?_,Ya h,fun a a9 b aj=>?_⟩
  . split
    . exact List.pairwise_singleton _ _
    . exact List.Pairwise.nil
  . split at a9
    . rename_i ar
      simp only[cc,decide_eq_true_eq] at ar;rw[gZ.1 a9];obtain⟨j,cK,aa,af,az,rfl⟩:=ER.1 aj;refine⟨(h _ _ _ ar.2).trans (h _ _ _ az).symm,.inr ⟨rfl,?_⟩⟩;show(i:Int)<((i+1+j:Nat):Int);omega
    . cases a9
theorem X9{tm:bG->Int}{ok:Nat->Nat->bG->Bool}{stop lo:Int}(h:∀len i c,ok len i c=true->tm c=lo):∀{rs:List bM}{ri:Nat},(ll tm ok stop rs ri).Pairwise K6
 |[],_=>List.Pairwise.nil
 |r::rs,ri=>by
  unfold ll;refine List.pairwise_append.2 ⟨?_,X9 h,fun a a9 b aj=>?_⟩
  . split
    . exact List.Pairwise.nil
    . exact Ya h
  . split at a9
    . cases a9
    . obtain⟨j,c,aa,af,az,rfl⟩:=ER.1 a9
      obtain⟨m,fO,j',cK,bI,ce,dS,ft,fl,rfl⟩:=KO.1 aj;refine⟨(h _ _ _ az).trans (h _ _ _ fl).symm,.inl ?_⟩;show(ri:Int)<((ri+1+m:Nat):Int);omega
theorem aLn{l:List eG}(h:l.Pairwise K6):wK.lx l:=by
 intro i j p q jW ay aG;obtain⟨hi,rfl⟩:=bo.1 ay;obtain⟨ap,rfl⟩:=bo.1 aG;obtain⟨aa,af⟩:=List.pairwise_iff_getElem.1 h i j hi ap jW;unfold wK.o5;have fY:fM l[j].time l[i].time=0:=by unfold fM;rw[if_neg (by omega),if_neg (by omega)]
 rw[fY];rcases af with af|⟨af,az⟩
 . have a4:fM l[j].run l[i].run=1:=by unfold fM;rw[if_neg (by omega),if_pos af]
   rw[a4];simp[pK]
 . have a4:fM l[j].run l[i].run=0:=by unfold fM;rw[if_neg (by omega),if_neg (by omega)]
   have bd:fM l[j].cm l[i].cm=1:=by unfold fM;rw[if_neg (by omega),if_pos az]
   rw[a4,bd];simp[pK]
end Go.aL.C
namespace Go.aL.C
open Go.aL
def p4(k:Nat)(N:Mem)(v:V)(L:List eG):Prop:=(v=.slice [] .nil/\L=[])∨∃b ver,v=.aZ b ver 0 L.length/\N[b]? =some (.arr 3 (L.map eG.row) ver 0)/\k<=b/\0<L.length
structure pX(P:Mem)(v:V)(L:List eG)(N:Mem):Prop where
 pre:k0 P N
 own:cq N.length N=true
 vs:p4 P.length N v L
theorem pX.app{P N:Mem}{v:V}{L:List eG}(H:pX P v L N){G:Mem}(gk:cq (N.length+G.length) G=true):pX P v L (N++G):=by
 refine⟨H.pre.app G,?_,?_⟩
 . rw[nN,dz,nO (Nat.le_add_right _ _) N H.own,gk];rfl
 . rcases H.vs with h|⟨b,ver,aa,af,az⟩
   . exact .inl h
   . exact .inr ⟨b,ver,aa,bY af G,az⟩
theorem pX.put{P N:Mem}{v:V}{L:List eG}(H:pX P v L N)(x:eG)(aj:L.length<=1000):∃dT du,dX false 3 24 v (.slice [x.row] .full) N=some (dT,du)/\pX P dT (L++[x]) du/\∀(i:Nat) cs,N[i]? =some (.box cs)->du[i]? =some (.box cs):=by
 obtain⟨G,rfl⟩:=H.pre;have aA:=H.own;rcases H.vs with⟨rfl,rfl⟩|⟨b,ver,rfl,af,az,bh⟩
 . refine⟨.aZ (P++G).length 0 0 1,P++G++[.arr 3 [x.row] 0 0],?_,⟨⟨G++[.arr 3 [x.row] 0 0],by simp⟩,?_,.inr ⟨(P++G).length,0,rfl,by simp,by simp,by simp⟩⟩,fun i cs h=>bY h _⟩
   . have ag:(x.row.length==3)=true:=rfl
     simp only[dX,eK,fr,ag,cond_true,g0];rfl
   . have aa:(P++G++[a1.arr 3 [x.row] 0 0]).length=(P++G).length+1:=by simp;omega
     rw[aa,nN,nO (Nat.le_add_right _ _) _ aA];rfl
 . have eC:=sp (bytes:=24) (r:=x.row) af (eu _) rfl (by omega)
   have mB:=(bo.1 af).1;refine⟨_,_,eC,⟨?_,?_,.inr ⟨b,ver+1,by rw[dz];rfl,by rw[eB mB,List.map_append];rfl,az,by simp⟩⟩,fun i cs h=>?_⟩
   . refine⟨G.set (b -P.length) (.arr 3 ((L.map eG.row)++[x.row]) (ver+1) 0),?_⟩
     rw[List.set_append_right _ _ az]
   . rw[eR];exact Ax aA rfl _
   . rw[dv fun e=>by subst e;rw[af] at h;cases h];exact h
theorem pX.box{P N:Mem}{v:V}{L:List eG}(H:pX P v L N){p:Nat}{B:a1}(h:P[p]? =some B):N[p]? =some B:=by
 obtain⟨G,rfl⟩:=H.pre;exact bY h G
theorem aQG{P:Program}{l:Nat}{live:List Nat}{a dB:a6}{Q:Exit->aI->Mem->Prop}{s:aI}{M:Mem}(h:dn P a (ug (fun _ _=>∃_:Nat,False) l live Q) s M):dn P (.scope l live a dB) Q s M:=
 ⟨fun _ _ _=>False,h,fun _ _ _ h=>h.elim⟩
theorem Ry(n:Net)(ok:f4 n)(stop:Int)(tm:bG->Int)(jK:Nat->Nat->bG->Bool){lo:Int}(gQ:∀len i c,jK len i c=true->tm c=lo)(FU:Nat)(c3:List V){M:Mem}(dZ:cq M.length M=true)
 (aD:∀(r:bM)(i:Nat)(c:bG)(N:Mem),k0 M N->cq N.length N=true->r∈n.runs->r.calls[i]? =some c->b9 au FU ([.slice (r.calls.map bG.row) r.tag,.int .i64 i]++c3) N (fun v du=>v=.tuple [.int .i64 (tm c),.bool (jK r.calls.length i c)]/\du=N)):
 b9 au DL [.agg n.row,.int .i64 stop,.fn FU c3] M (fun v N=>p4 0 N v (ll tm jK stop n.runs 0)):=by
 have om:=ok.runs;have fb:∀(K:Mem)(B:a1),(K++[B])[K.length]? =some B:=fun K B=>by simp
 have is:∀(K:Mem)(B X:a1),(K++[B]).set K.length X=K++[X]:=fun K B X=>by simp
 obtain⟨P,nx⟩:∃P,P=M++[.box n.row]:=⟨_,rfl⟩;have aHq:cq P.length P=true:=by
  rw[nx,nN,dz,nO (Nat.le_add_right _ _) M dZ];rfl
 have T1:P[M.length]? =some (.box n.row):=by rw[nx];exact fb _ _
 have aHl:∀N,k0 P N->k0 M N:=fun N ⟨G,gk⟩=>⟨[.box n.row]++G,by rw[gk,nx,en]⟩;simp only[Net.row] at nx T1;refine hl aFj (by simp[F3]) ?_;simp only[hg];simp-implicitDefEqProofs (disch:=omega) only[go_sem,F3,Net.row];rw[<-nx];clear nx;rw[show Rc=.scope 0 [1,2,3,7] Rd Rb from rfl];refine aQG ?_;obtain⟨PX,T3⟩:∃PX,PX=ug (fun _ _=>∃_:Nat,False) 0 [1,2,3,7] (o8 [mn.tmp 6] (qz fun v N=>p4 0 N v (ll tm jK stop n.runs 0))):=⟨_,rfl⟩;rw[<-T3];simp-implicitDefEqProofs (disch:=omega) only[go_sem,↓bm 3,↓bm 59,T1];have pj:(ll tm jK stop n.runs 0).length<=42:=by
  have:=Pp (tm:=tm) (ok:=jK) (stop:=stop) (rs:=n.runs) (ri:=0) ok.calls;omega
 have aKe:=aLn (X9 (stop:=stop) (rs:=n.runs) (ri:=0) gQ);generalize bN:ll tm jK stop n.runs 0=full at*;refine ej n.runs (fun i vs N=>∃v L,vs=[.int .i64 stop,.fn FU c3,v,.slice (n.runs.map bM.row) n.pS,.int .i64 n.runs.length,.int .i64 i]/\pX P v L N/\L++ll tm jK stop (n.runs.drop i) i=full)
  ⟨.slice [] .nil,[],rfl,⟨k0.refl P,aHq,.inl ⟨rfl,rfl⟩⟩,bN⟩ ?_ ?_;rotate_left
 . rintro vs N ⟨v,L,rfl,ak,cV⟩
   rw[List.drop_length] at cV;simp only[ll,fA] at cV;subst cV;have eA:wK.gi N v L:=by
    rcases ak.vs with⟨rfl,rfl⟩|⟨b,ver,rfl,af,az,bh⟩
    . exact wK.OY ak.own
    . exact wK.OX ak.own af
   simp-implicitDefEqProofs (disch:=omega) only[go_sem,↓bm 7,↓bm 52,db];refine ho (wK.Ld eA aKe (by omega)) ?_;simp-implicitDefEqProofs (disch:=omega) only[go_sem,↓bm 54];rw[T3];simp-implicitDefEqProofs (disch:=omega) only[go_sem];rcases ak.vs with h|⟨b,ver,aa,af,az,bh⟩
   . exact .inl h
   . exact .inr ⟨b,ver,aa,af,fR _,bh⟩
 rintro i r vs N an hi ba ⟨v,L,rfl,ak,cV⟩;rw[sA an] at cV;have Dx:=dQ an;have Uf:=ok.calls r Dx;have m4:pX P v L (N++[.box r.row]):=ak.app rfl;have kn:(N++[.box r.row])[N.length]? =some (.box r.row):=fb _ _;simp only[bM.row] at kn m4;simp-implicitDefEqProofs (disch:=omega) only[go_sem,↓bm 7,↓bm 10,↓bm 12,ba,an,fb,is,bM.row];refine ck (fun aT=>?_) (fun aT=>?_)
 . simp-implicitDefEqProofs (disch:=omega) only[go_sem,↓bm 44]
   refine cS hi ⟨v,L,rfl,m4,?_⟩;rw[<-cV];show _=L++((if r.gone then[] else _)++_);rw[if_pos aT];rfl
 have Vc:ll tm jK stop (r::n.runs.drop (i+1)) i=oP tm jK stop i r.calls.length r.calls 0++ll tm jK stop (n.runs.drop (i+1)) (i+1):=by
  show(if r.gone then[] else _)++_=_;rw[if_neg (by rw[aT];exact Bool.noConfusion)]
 rw[Vc] at cV;generalize N++[a1.box [V.int .i64 r.te,.int .i64 r.day,.int .i64 r.inst,.str r.id,.int .i64 r.ik,.bool r.free,.bool r.gone,.slice (r.calls.map bG.row) r.tag]]=dW at m4 kn⊢;simp-implicitDefEqProofs (disch:=omega) only[go_sem,↓bm 14,kn];generalize N.length=p at*;have aJj:L.length+(oP tm jK stop i r.calls.length r.calls 0).length<=42:=by
  have:=congrArg List.length cV;simp only[dz] at this;omega
 refine ej r.calls (fun k vs eF=>∃v L,vs=[.int .i64 stop,.fn FU c3,v,.int .i64 i,.ptr p 0,.slice (n.runs.map bM.row) n.pS,.int .i64 n.runs.length,.int .i64 i,.slice (r.calls.map bG.row) r.tag,.int .i64 r.calls.length,.int .i64 k]/\pX P v L eF/\
  eF[p]? =some (.box r.row)/\L++(oP tm jK stop i r.calls.length (r.calls.drop k) k++ll tm jK stop (n.runs.drop (i+1)) (i+1))=full) ⟨v,L,rfl,m4,kn,cV⟩ ?_ ?_;rotate_left
 . rintro vs eF ⟨j7,y1,rfl,hK,ko,nw⟩
   rw[List.drop_length] at nw;simp-implicitDefEqProofs (disch:=omega) only[go_sem,↓bm 16,↓bm 44,db];exact cS hi ⟨j7,y1,rfl,hK,nw⟩
 clear aJj m4 kn cV Vc ak;rintro k c vs eF ar ao fi ⟨j7,y1,rfl,hK,ko,nw⟩;rw[sA ar] at nw;have gP:y1.length<=42:=by
  have:=congrArg List.length nw;simp only[dz] at this;omega
 have iJ:pX P j7 y1 (eF++[.box c.row]):=hK.app rfl;have oi:(eF++[.box c.row])[p]? =some (.box r.row):=bY ko _;have C4:(eF++[.box c.row])[eF.length]? =some (.box c.row):=fb _ _;have vG:oP tm jK stop i r.calls.length (c::r.calls.drop (k+1)) k=(if(decide (c.stop=stop)&&jK r.calls.length k c) then[(⟨i,k,tm c⟩:eG)] else[])++oP tm jK stop i r.calls.length (r.calls.drop (k+1)) (k+1):=rfl;rw[vG] at nw;simp only[bG.row] at iJ oi C4;simp-implicitDefEqProofs (disch:=omega) only[go_sem,↓bm 16,↓bm 19,fi,ar,fb,is,bG.row];generalize eF++[a1.box [V.int .i64 c.stop,.int .i64 c.cJ,.int .i64 c.cf,.bool c.ha,.bool c.fC]]=gE at iJ oi C4⊢;simp-implicitDefEqProofs (disch:=omega) only[go_sem,↓bm 21,C4];refine a5 (fun a2=>?_) (fun a2=>?_);rotate_left
 . simp-implicitDefEqProofs (disch:=omega) only[go_sem,↓bm 33]
   refine cS ao ⟨j7,y1,rfl,iJ,oi,?_⟩;rw[<-nw,decide_eq_false a2];rfl
 rw[decide_eq_true a2,Bool.true_and] at nw;simp only[bM.row] at oi;have zF:=aD r k c gE (aHl _ iJ.pre) iJ.own Dx ar;simp-implicitDefEqProofs (disch:=omega) only[go_sem,↓bm 23,oi];refine ho zF ?_;simp-implicitDefEqProofs (disch:=omega) only[go_sem];generalize aj:jK r.calls.length k c=b at nw;simp-implicitDefEqProofs (disch:=omega) only[go_sem,↓bm 27];cases b with
 |false=>
  simp-implicitDefEqProofs (disch:=omega) only[go_sem,↓bm 33];exact cS ao ⟨j7,y1,rfl,iJ,oi,nw⟩
 |true=>
  obtain⟨Pj,p0,eC,jZ,aI_⟩:=iJ.put ⟨i,k,tm c⟩ (by omega);simp only[eG.row] at eC;simp-implicitDefEqProofs (disch:=omega) only[go_sem,↓bm 25,↓bm 33,eC];refine cS ao ⟨Pj,_,rfl,jZ,aI_ _ _ oi,?_⟩;rw[<-nw,if_pos rfl,en];rfl
end Go.aL.C
namespace Go.aL.C
open Go.aL
theorem P6{N:Mem}{v:V}{L:List eG}(h:p4 0 N v L)(e:Int):∃c,eY N 0 20 (.tuple [v,.int .i64 e])=some (.tuple [.slice (L.map eG.row) c,.int .i64 e]):=by
 rcases h with⟨rfl,rfl⟩|⟨b,ver,rfl,a7,_,_⟩
 . exact⟨_,rfl⟩
 . refine⟨.cx,?_⟩
   have aw:decide (0+L.length<=(L.map eG.row).length)=true:=decide_eq_true (by simp);have aa:∀n,eY N 0 (n+1) (.aZ b ver 0 L.length)=some (.slice (L.map eG.row) .cx):=fun n=>by
    simp only[eY,a7,decide_eq_false (e8 b),cond_false,beq_self_eq_true,aw,eQ,cond_true,lW,g_ (Nat.le_of_eq (eu eG.row):(L.map eG.row).length<=L.length)]
   have af:eY N 0 20 (.tuple [.aZ b ver 0 L.length,.int .i64 e])=(jI (eY N 0 19) [.aZ b ver 0 L.length,.int .i64 e]).map .tuple:=rfl;rw[af];have az:eY N 0 19 (.int .i64 e)=some (.int .i64 e):=rfl;simp only[jI,aa,az,lY]
theorem QT(n:Net)(aK:n.wf)(ok:f4 n)(z:Int)(a_:0<=z/\z<n.stops.length):bT au DK [.agg n.row,.slice [[.int .i64 z]] .full] (fun v=>v=.int .i64 0):=by
 have oe:=Es n aK ok;simp only[Net.row] at oe;refine bP aFh (by simp[F2]) ?_;simp-implicitDefEqProofs (disch:=omega) only[go_sem,F2,Net.row];first|refine b1 (oe) ?_|refine bV (oe) ?_
 simp-implicitDefEqProofs (disch:=omega) only[go_sem];refine ge 1 (fun i vs N=>vs=[.ptr 0 0,.slice [[.int .i64 z]] .full,.int .i64 1,.int .i64 i]/\N=[.box n.row]) ⟨rfl,rfl⟩ ?_ ?_;rotate_left
 . rintro vs N ⟨rfl,rfl⟩
   have C7:decide (((1:Nat):Int)<1)=false:=rfl;simp-implicitDefEqProofs (disch:=omega) only[go_sem,↓bm 13,↓bm 33,Net.row,C7]
 rintro i vs N hi ba ⟨rfl,rfl⟩;obtain rfl:i=0:=by omega
 have xw:decide (((0:Nat):Int)<1)=true:=rfl;have vr:∀N,iz 1 (.slice [[.int .i64 z]] .full) (.int .i64 ((0:Nat):Int)) N=some (.gA [.int .i64 z]):=fun _=>rfl;simp-implicitDefEqProofs (disch:=omega) only[go_sem,↓bm 13,↓bm 16,↓bm 21,Net.row,xw,vr];refine a5 (fun g=>absurd g (by omega)) (fun _=>?_);simp-implicitDefEqProofs (disch:=omega) only[go_sem];refine a5 (fun g=>absurd g (by omega)) (fun _=>?_);simp-implicitDefEqProofs (disch:=omega) only[go_sem,↓bm 25,Net.row];exact cS hi ⟨rfl,rfl⟩
def FK(n:Net)(z lo:Int):List eG:=ll (fun c=>c.cf) (yp lo) z n.runs 0
def Fq(n:Net)(z lo:Int):List eG:=ll (fun c=>c.cJ) (yn lo) z n.runs 0
theorem acG(n:Net)(aK:n.wf)(ok:f4 n)(z lo:Int)(a_:0<=z/\z<n.stops.length):bT au Ie [.agg n.row,.int .i64 z,.int .i64 lo,.int .i64 (lo+1)] (fun v=>∃c,v=.tuple [.slice ((FK n z lo).map eG.row) c,.int .i64 0]):=by
 have oe:=QT n aK ok z a_;have gQ:∀len i c,yp lo len i c=true->c.cf=lo:=fun len i c h=>by
  simp only[yp,cc,decide_eq_true_eq] at h;omega
 obtain⟨M,a7⟩:∃M:Mem,M=[.box n.row,.box [.int .i64 lo],.box [.int .i64 (lo+1)]]:=⟨_,rfl⟩;have dZ:cq M.length M=true:=by rw[a7];simp[cq,a1.under,cT,V.under,Net.row]
 have nM:M[0]? =some (.box n.row):=by rw[a7];rfl
 have h2:M[1]? =some (.box [.int .i64 lo]):=by rw[a7];rfl
 have jb:M[2]? =some (.box [.int .i64 (lo+1)]):=by rw[a7];rfl
 have C6:=Ry n ok z (fun c=>c.cf) (yp lo) gQ DJ [.ptr 1 0,.ptr 2 0] dZ fun r i c N ay hu an ar=>by
  obtain⟨G,rfl⟩:=ay;have ca:=ok.calls r an;exact YV r.calls r.tag i c lo ar (by omega) (bY h2 G) (bY jb G) hu
 simp only[Net.row] at oe C6 a7 nM;refine bP aFg (by simp[F0]) ?_;simp-implicitDefEqProofs (disch:=omega) only[go_sem,F0,Net.row];first|refine b1 (oe) ?_|refine bV (oe) ?_
 simp-implicitDefEqProofs (disch:=omega) only[go_sem];rw[<-a7];clear a7;simp-implicitDefEqProofs (disch:=omega) only[go_sem,↓bm 11,nM];refine ew C6 ?_;intro v N aq;obtain⟨c,ar⟩:=P6 aq 0;show kZ (eY N 0 20 (.tuple [v,.int .i64 0])) _;rw[ar];exact⟨rfl,⟨c,rfl⟩,rfl,rfl⟩
theorem acF(n:Net)(aK:n.wf)(ok:f4 n)(z lo:Int)(a_:0<=z/\z<n.stops.length):bT au Ic [.agg n.row,.int .i64 z,.int .i64 lo,.int .i64 (lo+1)] (fun v=>∃c,v=.tuple [.slice ((Fq n z lo).map eG.row) c,.int .i64 0]):=by
 have oe:=QT n aK ok z a_;have gQ:∀len i c,yn lo len i c=true->c.cJ=lo:=fun len i c h=>by
  simp only[yn,cc,decide_eq_true_eq] at h;omega
 obtain⟨M,a7⟩:∃M:Mem,M=[.box n.row,.box [.int .i64 lo],.box [.int .i64 (lo+1)]]:=⟨_,rfl⟩;have dZ:cq M.length M=true:=by rw[a7];simp[cq,a1.under,cT,V.under,Net.row]
 have nM:M[0]? =some (.box n.row):=by rw[a7];rfl
 have h2:M[1]? =some (.box [.int .i64 lo]):=by rw[a7];rfl
 have jb:M[2]? =some (.box [.int .i64 (lo+1)]):=by rw[a7];rfl
 have C6:=Ry n ok z (fun c=>c.cJ) (yn lo) gQ DI [.ptr 1 0,.ptr 2 0] dZ fun r i c N ay hu an ar=>by
  obtain⟨G,rfl⟩:=ay;have ca:=ok.calls r an;exact YD r.calls r.tag i c lo ar (by omega) (bY h2 G) (bY jb G) hu
 simp only[Net.row] at oe C6 a7 nM;refine bP aFe (by simp[FY]) ?_;simp-implicitDefEqProofs (disch:=omega) only[go_sem,FY,Net.row];first|refine b1 (oe) ?_|refine bV (oe) ?_
 simp-implicitDefEqProofs (disch:=omega) only[go_sem];rw[<-a7];clear a7;simp-implicitDefEqProofs (disch:=omega) only[go_sem,↓bm 11,nM];refine ew C6 ?_;intro v N aq;obtain⟨c,ar⟩:=P6 aq 0;show kZ (eY N 0 20 (.tuple [v,.int .i64 0])) _;rw[ar];exact⟨rfl,⟨c,rfl⟩,rfl,rfl⟩
def v1(l:List eG)(i k:Int):Bool:=l.any fun v=>decide (v.run=i)&&decide (v.cm=k)
theorem VC(l:List eG)(c:c4)(i k:Int)(ag:l.length<=1000000):bT au Ea [.slice (l.map eG.row) c,.int .i64 i,.int .i64 k] (fun v=>v=.bool (v1 l i k)):=by
 refine bP aGM (by simp[Hr]) ?_;simp-implicitDefEqProofs (disch:=omega) only[go_sem,Hr];refine ej l (fun j vs N=>v1 (l.take j) i k=false/\vs=[.slice (l.map eG.row) c,.int .i64 i,.int .i64 k,.int .i64 l.length,.int .i64 j]/\N=[]) ⟨rfl,rfl,rfl⟩ ?_ ?_;rotate_left
 . rintro vs N ⟨h,rfl,rfl⟩
   rw[gB] at h;simp-implicitDefEqProofs (disch:=omega) only[go_sem,db];exact h.symm
 rintro j x vs N ad ap lJ ⟨h,rfl,rfl⟩;have lK:v1 (l.take (j+1)) i k=(decide (x.run=i)&&decide (x.cm=k)):=by
  unfold v1 at h⊢;rw[iu,ad,List.any_append,h];simp
 simp-implicitDefEqProofs (disch:=omega) only[go_sem,lJ,ad,eG.row];refine a5 (fun aT=>?_) (fun aT=>?_);rotate_left
 . simp-implicitDefEqProofs (disch:=omega) only[go_sem]
   exact cS ap ⟨by rw[lK,decide_eq_false aT];rfl,rfl,rfl⟩
 simp-implicitDefEqProofs (disch:=omega) only[go_sem,ad,eG.row];refine a5 (fun a2=>?_) (fun a2=>?_);rotate_left
 . simp-implicitDefEqProofs (disch:=omega) only[go_sem]
   exact cS ap ⟨by rw[lK,decide_eq_true aT,decide_eq_false a2];rfl,rfl,rfl⟩
 simp-implicitDefEqProofs (disch:=omega) only[go_sem];exact(List.any_eq_true.2 ⟨x,dQ ad,by rw[decide_eq_true aT,decide_eq_true a2];rfl⟩).symm
end Go.aL.C
namespace Go.aL.C
open Go.aL
theorem aEX{n:Net}{q:Query}{r:bM}(h:(i0 n q r).gone=false):r.gone=false:=by
 have aa:(!yM n q r)=false:=h;cases aB:r.gone with
 |false=>rfl
 |true=>simp[yM,aB] at aa
theorem aO1{n:Net}{q:Query}{c:bG}(h:(f9 n q c).ha=true):c.ha=true:=by
 unfold f9 at h;split at h
 . split at h
   . exact h
   . cases h
 . exact h
theorem aO0{n:Net}{q:Query}{c:bG}(h:(f9 n q c).fC=true):c.fC=true:=by
 unfold f9 at h;split at h
 . split at h
   . exact h
   . cases h
 . exact h
theorem aLs{n:Net}{q:Query}(ok:f4 n){x:cd}(ad:K7 (f6 n q) x)(an:x.cY=true):
 ((0<=x.src/\x.src<n.stops.length)/\(0<=x.dst/\x.dst<n.stops.length)/\(0<=x.cf/\x.cf<=3155932800)/\(0<=x.cJ/\x.cJ<=3155932800))/\
 (x.stay=false->v1 (FK n x.src x.cf) x.run x.ha=true)/\(Aq (f6 n q) x=true->v1 (Fq n x.dst x.cJ) x.run x.fC=true):=by
 obtain⟨i,b,k,fO,qV,cK,h⟩:=ad an;have aa:=h.an;rw[Kq] at aa;obtain⟨r,oj,rfl⟩:=dK.1 aa;have aB:=aEX h.gone;have af:(r.calls.map (f9 n q))[b]? =some qV:=h.bU;have az:(r.calls.map (f9 n q))[k]? =some cK:=h.ar;obtain⟨B,bU,rfl⟩:=map_some af;obtain⟨c,ar,rfl⟩:=map_some az;have ak:=h.src;have aw:=h.dst;have he:=h.cf;have a9:=h.cJ;have Ue:=h.acy;rw[yx] at ak aw;rw[Ku] at he;rw[OU] at a9;have gO:=(bo.1 ar).1;obtain⟨t1,t2,t3⟩:=ze ok oj bU;obtain⟨tf,qR,Pc⟩:=ze ok oj ar;refine⟨⟨by rw[ak];exact t1,by rw[aw];exact tf,by rw[he];exact t3,by rw[a9];exact qR⟩,fun bl=>?_,fun jn=>?_⟩
 . refine List.any_eq_true.2 ⟨⟨((0+i:Nat):Int),(b:Int),B.cf⟩,KO.2 ⟨i,r,b,B,oj,aB,bU,ak.symm,?_,rfl⟩,?_⟩
   . unfold yp
     rw[aO1 (h.on bl),he,decide_eq_true (by omega),decide_eq_true (by omega),decide_eq_true (by omega)];rfl
   . rw[h.run,h.ha,ee,decide_eq_true rfl,decide_eq_true rfl];rfl
 . have qg:c.fC=true:=by
    unfold Aq at jn;have e:(ki (f6 n q) i)[k]? =some (f9 n q c):=by
     rw[Rl];simp only[ki,oj];exact az
    rw[h.run,h.fC,kU,kU,e] at jn;exact aO0 jn
   refine List.any_eq_true.2 ⟨⟨((0+i:Nat):Int),(k:Int),c.cJ⟩,KO.2 ⟨i,r,k,c,oj,aB,ar,aw.symm,?_,rfl⟩,?_⟩
   . unfold yn
     rw[qg,a9,decide_eq_true (by omega),decide_eq_true (by omega),decide_eq_true (by omega)];rfl
   . rw[h.run,h.fC,ee,decide_eq_true rfl,decide_eq_true rfl];rfl
theorem Yb{n:Net}(ok:f4 n)(tm:bG->Int)(jK:Nat->Nat->bG->Bool)(z:Int):(ll tm jK z n.runs 0).length<=1000000:=by
 have aa:=Pp (tm:=tm) (ok:=jK) (stop:=z) (rs:=n.runs) (ri:=0) ok.calls;have:=ok.runs;omega
theorem P5{D R:List eG}{LU rc:c4}{x:cd}{rS:Bool}{p:Nat}{N:Mem}(ad:N[p]? =some (.box x.row))(s:aI)(J8:aX s 10=.ptr p 0)(Ey:aX s 11=.slice (D.map eG.row) LU)(Ez:aX s 12=.int .i64 0)(AE:aX s 13=.slice (R.map eG.row) rc)(J9:aX s 14=.int .i64 0)(Wm:aX s 15=.bool rS)
 (d4:D.length<=1000000)(fI:R.length<=1000000)(HL:x.stay=false->v1 D x.run x.ha=true)(C0:rS=true->v1 R x.run x.fC=true)(P:Exit->aI->Mem->Prop)
 (nx:∀c,P .normal [(2,aX s 2),(5,aX s 5),(6,aX s 6),(8,aX s 8),(32,aX s 32),(33,aX s 33),(43,aX s 43),(44,aX s 44),(123,.bool c)] N):dn au Re P s N:=by
 have aw:=VC D LU x.run x.ha d4;have an:=VC R rc x.run x.fC fI;simp only[cd.row] at ad;simp-implicitDefEqProofs (disch:=omega) only[go_sem,↓bm 39,J8,Ez,J9,ad];refine ck (fun aT=>?_) (fun aT=>?_)
 . simp-implicitDefEqProofs (disch:=omega) only[go_sem,Wm]
   refine ck (fun a2=>?_) (fun a2=>?_);rotate_left
   . exact nx _
   simp-implicitDefEqProofs (disch:=omega) only[go_sem,J8,AE,ad];rw[C0 a2] at an;first|refine b1 (an) ?_|refine bV (an) ?_
   simp-implicitDefEqProofs (disch:=omega) only[go_sem];exact nx _
 . simp-implicitDefEqProofs (disch:=omega) only[go_sem,J8,Ey,ad]
   rw[HL aT] at aw;first|refine b1 (aw) ?_|refine bV (aw) ?_
   simp-implicitDefEqProofs (disch:=omega) only[go_sem,Wm];refine ck (fun a2=>?_) (fun a2=>?_);rotate_left
   . exact nx _
   simp-implicitDefEqProofs (disch:=omega) only[go_sem,J8,AE,ad];rw[C0 a2] at an;first|refine b1 (an) ?_|refine bV (an) ?_
   simp-implicitDefEqProofs (disch:=omega) only[go_sem];exact nx _
theorem abe(n:Net)(q:Query)(aK:n.wf)(hw:bT au C.JI [] (fun v=>v=.bool true)):bT au JH [.agg n.row,.agg q.row] (fun v=>v=.bool true):=by
 refine bP aGK (by simp[Hp]) ?_;simp-implicitDefEqProofs (disch:=omega) only[go_sem,Hp,Net.row,Query.row];refine fw (aEY n q aK) ?_;rintro v ⟨b,rfl,aj⟩;simp-implicitDefEqProofs (disch:=omega) only[go_sem];refine ck (fun aT=>?_) (fun aT=>?_);rotate_left
 . simp-implicitDefEqProofs (disch:=omega) only[go_sem]
   first|refine b1 (hw) ?_|refine bV (hw) ?_
   simp-implicitDefEqProofs (disch:=omega) only[go_sem]
 obtain⟨ok,aG,az⟩:=aj aT;simp-implicitDefEqProofs (disch:=omega) only[go_sem];refine ck (fun a2=>?_) (fun a2=>?_)
 . simp-implicitDefEqProofs (disch:=omega) only[go_sem]
   first|refine b1 (hw) ?_|refine bV (hw) ?_
   simp-implicitDefEqProofs (disch:=omega) only[go_sem]
 simp-implicitDefEqProofs (disch:=omega) only[go_sem,↓bm 8];refine fw (Y5 n q aK ok aG az a2) ?_;rintro v ⟨L,rfl,k9,cV⟩;simp-implicitDefEqProofs (disch:=omega) only[go_sem,↓bm 10];obtain⟨gD,HA⟩:∃gD:Mem,gD=[.box n.row,.box q.row]:=⟨_,rfl⟩;have m3:gD[0]? =some (.box n.row):=by rw[HA];rfl
 simp only[Net.row,Query.row] at HA m3;rw[<-HA];clear HA;have fb:∀(K:Mem)(B:a1),(K++[B])[K.length]? =some B:=fun K B=>by simp
 have is:∀(K:Mem)(B X:a1),(K++[B]).set K.length X=K++[X]:=fun K B X=>by simp
 refine ej L (fun i vs N=>k0 gD N/\vs=[.ptr 0 0,.slice (L.map de.row) .cx,.int .i64 0,.int .i64 L.length,.int .i64 i]) ⟨k0.refl _,rfl⟩ ?_ ?_;rotate_left
 . rintro vs N ⟨⟨G,rfl⟩,rfl⟩
   simp-implicitDefEqProofs (disch:=omega) only[go_sem,↓bm 12,↓bm 67,db];first|refine b1 (hw) ?_|refine bV (hw) ?_
   simp-implicitDefEqProofs (disch:=omega) only[go_sem]
 rintro i o vs N aA hi ba ⟨ay,rfl⟩;have ru:=cV o (dQ aA);simp-implicitDefEqProofs (disch:=omega) only[go_sem,↓bm 12,↓bm 15,↓bm 17,↓bm 19,ba,aA,de.row];have vA:=ru.len;refine ej o.a3 (fun k vs N=>k0 gD N/\vs=[.ptr 0 0,.slice (L.map de.row) .cx,.int .i64 0,.slice (o.a3.map cd.row) o.lc,.int .i64 L.length,.int .i64 i,.int .i64 o.a3.length,.int .i64 k]) ⟨ay,rfl⟩ ?_ ?_;rotate_left
 . rintro vs eF ⟨ko,rfl⟩
   simp-implicitDefEqProofs (disch:=omega) only[go_sem,↓bm 21,↓bm 59,db];exact cS hi ⟨ko,rfl⟩
 rintro k x vs eF ad ao fi ⟨ko,rfl⟩;simp-implicitDefEqProofs (disch:=omega) only[go_sem,↓bm 21,↓bm 24,↓bm 26,fi,ad,cd.row,fb,is];obtain⟨gE,pf⟩:∃gE,gE=eF++[.box x.row]:=⟨_,rfl⟩;have oi:k0 gD gE:=by rw[pf];exact ko.app _
 have hc:gE[eF.length]? =some (.box x.row):=by rw[pf];exact fb _ _
 have gT:gE[0]? =some (.box n.row):=by
  obtain⟨G,gk⟩:=oi;rw[gk];simp only[Net.row];exact bY m3 G
 simp only[cd.row] at pf hc;simp only[Net.row] at gT;rw[<-pf];clear pf;simp-implicitDefEqProofs (disch:=omega) only[go_sem,↓bm 28,hc];refine ck (fun bJ=>?_) (fun bJ=>?_);rotate_left
 . simp-implicitDefEqProofs (disch:=omega) only[go_sem,↓bm 48]
   exact cS ao ⟨oi,rfl⟩
 obtain⟨⟨iB,r2,Km,Kn⟩,HL,C0⟩:=aLs ok (ru.a3.ok x (dQ ad)) bJ;have d4:=acG n aK ok x.src x.cf iB;have el:=acF n aK ok x.dst x.cJ r2;have sM:(k+1=o.a3.length∨∃y,o.a3[k+1]? =some y/\y.stay=false)->Aq (f6 n q) x=true:=by
  rintro(h|⟨y,aE,aKA⟩)
  . refine ru.ends x ?_ bJ
    rw[List.getLast?_eq_getElem?,<-h];exact ad
  . exact ru.a3.Wc k x y ad aE bJ aKA
 have oq:(FK n x.src x.cf).length<=1000000:=Yb ok _ _ _;have U2:(Fq n x.dst x.cJ).length<=1000000:=Yb ok _ _ _;have gL:IntKind.i64.wrap (x.cf+1)=x.cf+1:=n1 _ (by omega) (by omega);have kS:IntKind.i64.wrap (x.cJ+1)=x.cJ+1:=n1 _ (by omega) (by omega);generalize FK n x.src x.cf=D at*;generalize Fq n x.dst x.cJ=R at*;simp only[Net.row] at d4 el;simp-implicitDefEqProofs (disch:=omega) only[go_sem,↓bm 30,hc,gT,gL];refine fw d4 ?_;rintro v ⟨LU,rfl⟩;simp-implicitDefEqProofs (disch:=omega) only[go_sem,↓bm 32,hc,gT,kS];refine fw el ?_;rintro v ⟨rc,rfl⟩;have gO:o.a3.length<=1000:=ru.len;simp-implicitDefEqProofs (disch:=omega) only[go_sem,↓bm 34];refine a5 (fun c8=>?_) (fun c8=>?_)
 . simp-implicitDefEqProofs (disch:=omega) only[go_sem]
   refine P5 hc _ rfl rfl rfl rfl rfl rfl oq U2 HL (fun _=>C0 (sM (.inl (by omega)))) _ fun c=>?_;simp-implicitDefEqProofs (disch:=omega) only[go_sem,↓bm 48];exact cS ao ⟨oi,rfl⟩
 obtain⟨y,aE⟩:∃y,o.a3[k+1]? =some y:=⟨o.a3[k+1]'(by omega),by simp⟩;simp-implicitDefEqProofs (disch:=omega) only[go_sem,aE,cd.row];refine P5 hc _ rfl rfl rfl rfl rfl rfl oq U2 HL (fun aj=>C0 (sM (.inr ⟨y,aE,by simpa using aj⟩))) _ fun c=>?_;simp-implicitDefEqProofs (disch:=omega) only[go_sem,↓bm 48];exact cS ao ⟨oi,rfl⟩
end Go.aL.C
namespace Go.aL.C
open Go.aL
def jQ:Net where
 stops:=[⟨[65],0,false,0⟩,⟨[66],0,false,120⟩,⟨[67],0,false,0⟩]
 fP:=[⟨[82],0,false⟩]
 runs:=[⟨0,0,0,[116],0,false,false,[⟨0,100,100,true,false⟩,⟨1,200,210,true,true⟩,⟨2,500,500,false,true⟩],.full⟩,⟨0,0,0,[117],0,false,false,[⟨1,260,260,true,false⟩,⟨2,400,400,false,true⟩],.full⟩]
 ch:=[⟨0,1,1,0,false⟩]
 paths:=[]
 dD:=⟨[⟨[112],150,1,1,0,1⟩],.full,0,0,0⟩
 mN:=.full
 rc:=.full
 pS:=.full
 lc:=.full
 qI:=.nil
def yJ:Query:=⟨0,2,0,false,2,0,false,false,0,false⟩
theorem KK:jQ.wf:=by
 have i64:∀n:Int,decide (-1000<=n/\n<=1000)=true->ev n:=fun n h=>by
  have:=of_decide_eq_true h;unfold ev;omega
 have rU:∀n:Nat,decide (n<=1000)=true->n<=maxLen:=fun n h=>by
  have:=of_decide_eq_true h;have hm:maxLen=9223372036854775807:=rfl;omega
 refine⟨⟨?_,rU _ rfl⟩,⟨?_,rU _ rfl⟩,⟨?_,rU _ rfl⟩,⟨?_,rU _ rfl⟩,⟨fun _ h=>(mQ h).elim,rU _ rfl⟩,⟨?_,rU _ rfl,i64 _ rfl,i64 _ rfl,i64 _ rfl⟩⟩
 . intro s ak
   simp only[jQ,jt,mQ,or_false] at ak;rcases ak with rfl|rfl|rfl<;>exact⟨rU _ rfl,i64 _ rfl,i64 _ rfl⟩
 . intro s ak
   simp only[jQ,jt,mQ,or_false] at ak;rcases ak with rfl
   exact⟨rU _ rfl,i64 _ rfl⟩
 . intro s ak
   simp only[jQ,jt,mQ,or_false] at ak;rcases ak with rfl|rfl
   all_goals
    refine⟨i64 _ rfl,i64 _ rfl,i64 _ rfl,rU _ rfl,i64 _ rfl,fun c ar=>?_,rU _ rfl⟩;simp only[jt,mQ,or_false] at ar;rcases ar with rfl|ar
    . exact⟨i64 _ rfl,i64 _ rfl,i64 _ rfl⟩
    rcases ar with rfl|ar
    . exact⟨i64 _ rfl,i64 _ rfl,i64 _ rfl⟩
    all_goals (rcases ar with rfl;exact⟨i64 _ rfl,i64 _ rfl,i64 _ rfl⟩)
 . intro s ak
   simp only[jQ,jt,mQ,or_false] at ak;rcases ak with rfl
   exact⟨i64 _ rfl,i64 _ rfl,i64 _ rfl,i64 _ rfl⟩
 . intro s ak
   simp only[jQ,jt,mQ,or_false] at ak;rcases ak with rfl
   exact⟨rU _ rfl,i64 _ rfl,i64 _ rfl,i64 _ rfl,i64 _ rfl,i64 _ rfl⟩
theorem aPV:Ff jQ.stops:=by
 refine⟨by decide,fun i s ak=>?_⟩;match i,ak with
 |0,ak=>cases ak;exact⟨by decide+kernel,by decide,by decide,fun k t ao=>absurd ao (e8 _)⟩
 |1,ak=>
  cases ak;refine⟨by decide+kernel,by decide,by decide,fun k t ao aV=>?_⟩;obtain rfl:k=0:=by omega
  cases aV;decide
 |2,ak=>
  cases ak;refine⟨by decide+kernel,by decide,by decide,fun k t ao aV=>?_⟩;rcases(show k=0∨k=1 by omega) with rfl|rfl<;>cases aV<;>decide
 |i+3,ak=>cases ak
theorem aPT:Ba jQ.fP:=by
 refine⟨by decide,fun i s ak=>?_⟩;match i,ak with
 |0,ak=>cases ak;exact⟨by decide+kernel,by decide,fun k t ao=>absurd ao (e8 _)⟩
 |i+1,ak=>cases ak
theorem aPU:y8 jQ:=by
 refine⟨by decide,fun i r an=>?_⟩;match i,an with
 |0,an=>
  cases an;refine⟨by decide+kernel,by decide,by decide,by decide,by decide,⟨by decide,by decide,fun k c ar=>?_⟩,fun k t ao=>absurd ao (e8 _)⟩;match k,ar with
  |0,ar=>cases ar;exact⟨by decide,by decide,fun p ao=>absurd ao (by omega)⟩
  |1,ar=>cases ar;exact⟨by decide,by decide,fun p _ ay=>by cases ay;decide⟩
  |2,ar=>cases ar;exact⟨by decide,by decide,fun p _ ay=>by cases ay;decide⟩
  |k+3,ar=>cases ar
 |1,an=>
  cases an;refine⟨by decide+kernel,by decide,by decide,by decide,by decide,⟨by decide,by decide,fun k c ar=>?_⟩,fun k t ao aV=>?_⟩
  . match k,ar with
    |0,ar=>cases ar;exact⟨by decide,by decide,fun p ao=>absurd ao (by omega)⟩
    |1,ar=>cases ar;exact⟨by decide,by decide,fun p _ ay=>by cases ay;decide⟩
    |k+2,ar=>cases ar
  . obtain rfl:k=0:=by omega
    cases aV;decide
 |i+2,an=>cases an
theorem aPS:y3 jQ:=by
 refine⟨by decide,fun i l ag=>?_⟩;match i,ag with
 |0,ag=>
  cases ag;refine⟨by decide,by decide,by decide,fun a b a9 aj=>?_,fun h=>(by cases h),fun h=>(by cases h),fun k t ao=>absurd ao (e8 _)⟩;cases a9;cases aj;refine⟨by decide,by decide,fun c d ar aw=>?_,fun h=>by cases h⟩;cases ar;cases aw;rfl
 |i+1,ag=>cases ag
theorem aPR:uN jQ.paths jQ.stops.length:=by
 have aw:∀f,oX jQ.paths jQ.stops.length f fun _ _=>eH:=fun f=>
  ⟨fun p ay=>(mQ ay).elim,fun i j m _ _ _=>by show eH<=eH+eH;decide,fun D d4 _ i j hi ap=>by
    have:=d4 i hi;have:=d4 j ap;show D j -D i<=eH;omega,fun i j _ _=>by show 0<eH/\eH<=eH;decide⟩;exact⟨_,_,aw false,aw true,by decide+kernel⟩
theorem KJ:f4 jQ:=by
 refine⟨⟨aPV,aPT,aPU,aPS,fun i p ay=>(by cases ay),aPR,by decide+kernel⟩,by decide,by decide,by decide,by decide,fun r an=>?_⟩;simp only[jQ,jt,mQ,or_false] at an;rcases an with rfl|rfl<;>decide
theorem XY:q6 jQ.stops.length yJ:=by
 refine⟨by decide,by decide,by decide,by decide,by decide,by decide,by decide⟩
end Go.aL.C
namespace Go.aL.C
open Go.aL
def aI0:Hints:=⟨[(0,[]),(1,[1]),(2,[1,2,3]),(3,[1,2,3,4,5]),(4,[2,3,4,5,6,7]),(5,[0])],[],[(2,[9998])]⟩
def aIW:Hints:=⟨[(0,[2,3,4]),(1,[4,6,7]),(2,[4,6,7,15]),(3,[4,5]),(4,[4,6,20]),(5,[4,5]),(6,[4,5])],[],[]⟩
def aIA:Hints:=⟨[(0,[2,3]),(1,[7,8]),(2,[7,8,9]),(3,[8,9,22,23,24]),(4,[8,9,22,23,24,25]),(5,[8,9,11,22,23,24]),(6,[8,9,11,12,22,23,24]),(7,[8,9,12,22,23,24,28,29,30]),(8,[8,9,12,22,23,24,28,29,30,31]),(9,[8,9,12,14,22,23,24,28,29,30]),(10,[8,9,12,22,23,24,28,29,30]),(11,[8,9,12,22,23,24,28,29,30]),(12,[8,9,22,23,24]),(13,[8,9,22,23,24]),(14,[4,5])],[(4,[8,9,22,23,24]),(8,[8,9,12,22,23,24,28,29,30])],[(12,[1])]⟩
def aIM:Hints:=⟨[(0,[2,3]),(1,[6,7]),(2,[6,7,18]),(3,[4,5]),(4,[6,8]),(5,[8,23,24,25]),(6,[8,23,24,25,26]),(7,[8,10,23,24,25]),(8,[8,23,24,25]),(9,[8,23,24,25]),(10,[4,5])],[(6,[8,23,24,25])],[]⟩
def aI1:Hints:=⟨[(0,[0]),(1,[0])],[],[]⟩
def aID:Hints:=⟨[(0,[2,3]),(1,[2,3,7]),(2,[2,3,7,21]),(3,[4,5,6]),(4,[3,8]),(5,[3,8,11]),(6,[3,8,11,35]),(7,[4,5,6]),(8,[3,8,12]),(9,[3,8,12,49,50,51]),(10,[3,8,12,49,50,51,52]),(11,[3,8,12,13,14,49,50,51]),(12,[3,8,12,49,50,51]),(13,[3,8,12,49,50,51]),(14,[3,8,12,77,78]),(15,[3,8,12,77,78,79]),(16,[3,8,12,77,78]),(17,[3,8,12,77,78]),(18,[3,8,12,15]),(19,[3,8,12,15,94]),(20,[3,12,15]),(21,[3,12]),(22,[3,12]),(23,[3,12,16]),(24,[12,16,123,124]),(25,[12,16,123,124,125]),(26,[12,16,123,124]),(27,[12,16,123,124]),(28,[12,16,123,124]),(29,[4,5,6])],[(10,[3,8,12,49,50,51]),(15,[3,8,12,77,78]),(25,[12,16,123,124])],[(8,[9998,5008]),(12,[9998]),(23,[3]),(27,[4])]⟩
def aIO:Hints:=⟨[(0,[2,3]),(1,[2,3,6]),(2,[2,3,6,20]),(3,[4,5]),(4,[3,7]),(5,[7,9]),(6,[9,10,11]),(7,[9,10,11,37]),(8,[4,5]),(9,[9,10,12]),(10,[9,10,12,42]),(11,[9,10,12,13]),(12,[9,10,12,13]),(13,[9,10,12,13,56,57,58]),(14,[9,10,12,13,56,57,58,59]),(15,[9,10,12,13,15,56,57,58]),(16,[9,10,12,13,56,57,58]),(17,[9,10,12,13,56,57,58]),(18,[9,10,12,13,69]),(19,[9,10,12]),(20,[4,5])],[(9,[9,10]),(10,[9,10,12]),(14,[9,10,12,13,56,57,58])],[]⟩
def aIC:Hints:=⟨[(0,[2,3]),(1,[3,5]),(2,[3,5,10]),(3,[4]),(4,[13]),(5,[4]),(6,[4])],[],[]⟩
def aIt:Hints:=⟨[(0,[1]),(1,[1,12]),(2,[2,3]),(3,[1,4]),(4,[1,4,14,15,16]),(5,[1,4,14,15,16,17]),(6,[1,4,6,14,15,16]),(7,[1,4,6,7,14,15,16]),(8,[1,4,6,7,14,15,16,20,21,22]),(9,[1,4,6,7,14,15,16,20,21,22,23]),(10,[1,4,6,7,8,9,14,15,16,20,21,22]),(11,[1,4,6,7,8,9,14,15,16,20,21,22,42]),(12,[1,4,6,14,15,16]),(13,[1,4,6,7,14,15,16]),(14,[1,4,6,7,14,15,16,20,21,22]),(15,[1,4,6,14,15,16,52]),(16,[1,4,14,15,16]),(17,[1,4,14,15,16]),(18,[2,3])],[(5,[1,4,14,15,16]),(9,[1,4,6,7,14,15,16,20,21,22])],[]⟩
def aIL:Hints:=⟨[(0,[0]),(1,[3]),(2,[3,8,9]),(3,[3,8,9,10]),(4,[3,4,8,9]),(5,[3,8,9]),(6,[3,8,9]),(7,[2])],[(3,[3,8,9])],[]⟩
def aIH:Hints:=⟨[(0,[2,3,4,10]),(1,[2,3,4,10,29]),(2,[3,4,10]),(3,[3,4,10,50]),(4,[])],[],[]⟩
def aIK:Hints:=⟨[(0,[0,1,2,3,15,16,17]),(1,[0,1,2,3,15,16,17,18]),(2,[0,1,2,3,9,15,16,17]),(3,[0,1,2,3,9,10,15,16,17]),(4,[0,1,2,3,9,10,15,16,17,32]),(5,[0,1,2,3,15,16,17]),(6,[0,1,2,3,15,16,17])],[(1,[0,1,2,3,15,16,17])],[]⟩
def aII:Hints:=⟨[(0,[0,1]),(1,[0,1]),(2,[0,1,4]),(3,[0,1,4]),(4,[0,1,4]),(5,[0,1,4]),(6,[0,1,4,48,49,50]),(7,[0,1,4,48,49,50,51]),(8,[0,1,4,5,6,48,49,50]),(9,[0,1,4,5,6,48,49,50,60]),(10,[0,1,4,5,6,48,49,50]),(11,[0,1,4,5,48,49,50,69,70,71]),(12,[0,1,4,5,48,49,50,69,70,71,72]),(13,[0,1,4,5,7,8,48,49,50,69,70,71]),(14,[0,1,4,5,7,8,9,48,49,50,69,70,71]),(15,[0,1,4,5,7,9,48,49,50,69,70,71,105]),(16,[0,1,4,5,48,49,50,69,70,71]),(17,[0,1,4,5,48,49,50,69,70,71]),(18,[0,1,4,48,49,50]),(19,[0,1,120]),(20,[0,1,10]),(21,[0,1,10]),(22,[0,1]),(23,[0,1,153,154,155]),(24,[0,1,153,154,155,156]),(25,[0,1,11,12,153,154,155]),(26,[0,1,11,12,153,154,155,180]),(27,[0,1,11,12,153,154,155]),(28,[0,1,153,154,155]),(29,[0,1,153,154,155])],[(7,[0,1,4,48,49,50]),(12,[0,1,4,5,48,49,50,69,70,71]),(19,[0,1]),(24,[0,1,153,154,155])],[]⟩
def aIN:Hints:=⟨[(0,[2,3]),(1,[3,5]),(2,[3,5,10]),(3,[4]),(4,[13]),(5,[4]),(6,[4])],[],[]⟩
def aIV:Hints:=⟨[(0,[2,3]),(1,[2,3,5]),(2,[2,3,5,19,20]),(3,[2,3,5,19,20,21]),(4,[2,3,5,19,20]),(5,[2,3,5,19,20]),(6,[2,3,5,35,36]),(7,[2,3,5,35,36,37]),(8,[2,3,5,35,36]),(9,[2,3,5,35,36]),(10,[2,3,5,50,51,52]),(11,[2,3,5,50,51,52,53]),(12,[2,3,5,6,7,50,51,52]),(13,[2,3,5,50,51,52]),(14,[2,3,5,50,51,52]),(15,[2,3,5,8]),(16,[2,3,5,8,79]),(17,[3,5,8]),(18,[3,5,8]),(19,[5]),(20,[4])],[(3,[2,3,5,19,20]),(7,[2,3,5,35,36]),(11,[2,3,5,50,51,52])],[(1,[5005])]⟩
def aIp:Hints:=⟨[(0,[1]),(1,[1,6]),(2,[1,20]),(3,[2,3]),(4,[1,7]),(5,[7,22,23,24]),(6,[7,22,23,24,25]),(7,[7,8,9,22,23,24]),(8,[7,8,9,22,23,24,30]),(9,[7,8,9,22,23,24,34,35]),(10,[7,8,9,22,23,24,34,35,36]),(11,[7,8,9,10,22,23,24,34,35]),(12,[7,8,9,10,11,12,22,23,24,34,35]),(13,[7,8,9,22,23,24,34,35]),(14,[7,8,9,22,23,24,34,35]),(15,[7,22,23,24]),(16,[7]),(17,[2,3])],[(5,[1,7]),(6,[7,22,23,24]),(10,[7,8,9,22,23,24,34,35])],[]⟩
def aIq:Hints:=⟨[(0,[2,3]),(1,[4])],[],[]⟩
def aIT:Hints:=⟨[(0,[0,3]),(1,[0,3,4]),(2,[0,3,4,5]),(3,[0,3,4,5,45]),(4,[0,3,4]),(5,[0,3,4,6]),(6,[0,3,4,6,72]),(7,[0,3,4,6,7]),(8,[0,3,4,6,7,93]),(9,[0,3,7,8]),(10,[0,3,7,8,124]),(11,[0,3,7,8,9]),(12,[0,3,7,8,9]),(13,[0,3,7,8,9,165]),(14,[0,3,7,8]),(15,[0,3,7,8]),(16,[])],[],[]⟩
def aIz:Hints:=⟨[(0,[1]),(1,[5]),(2,[2])],[],[]⟩
def aIx:Hints:=⟨[(0,[1]),(1,[1,3]),(2,[1,3,9,10,11]),(3,[1,3,9,10,11,12]),(4,[1,3,4,5,9,10,11]),(5,[1,3,4,5,9,10,11,17]),(6,[1,3,4,6,9,10,11]),(7,[1,3,4,7,9,10,11]),(8,[1,3,4,7,9,10,11]),(9,[1,3,4,7,9,10,11]),(10,[1,3,9,10,11]),(11,[1,3,9,10,11]),(12,[2])],[(3,[1,3,9,10,11])],[]⟩
def aIw:Hints:=⟨[(0,[2,3]),(1,[2,3,28]),(2,[4]),(3,[3,30,31,32]),(4,[3,30,31,32,33]),(5,[3,5,6,30,31,32]),(6,[3,6,7,30,31,32]),(7,[3,30,31,32,59]),(8,[4]),(9,[3,30,31,32]),(10,[4])],[(4,[3,30,31,32])],[]⟩
def aIE:Hints:=⟨[(0,[0,2,4]),(1,[0]),(2,[6])],[],[]⟩
def aIF:Hints:=⟨[(0,[0,1,5]),(1,[0,1,5,27]),(2,[0,1]),(3,[])],[],[]⟩
def aIB:Hints:=⟨[(0,[1,2]),(1,[4])],[],[]⟩
def aIJ:Hints:=⟨[(0,[0,1,4]),(1,[0,1,4,5]),(2,[0,1,4,5,6]),(3,[0,1,4,5,6,7]),(4,[0,1,4,5,6,7,38]),(5,[0,1,4,5,6,7]),(6,[0,1,4,5,6,7,8]),(7,[0,1,4,5,6,7,8,58]),(8,[0,1,4,5,6,7,8,9]),(9,[0,1,4,5,6,7,8,9]),(10,[0,1,4,5,6,7,8,9,10]),(11,[0,1,4,5,6,7,8,9,10,109]),(12,[0,1,4,5,6,7])],[(3,[0,1,4,5,6]),(4,[0,1,4,5,6,7])],[]⟩
def aIU:Hints:=⟨[(0,[0,1,2,3,15,16,17]),(1,[0,1,2,3,15,16,17,18]),(2,[0,1,2,3,9,15,16,17]),(3,[0,1,2,3,9,15,16,17,31]),(4,[0,1,2,3,9,10,15,16,17]),(5,[0,1,2,3,15,16,17]),(6,[0,1,2,3,15,16,17])],[(1,[0,1,2,3,15,16,17])],[]⟩
def aIS:Hints:=⟨[(0,[0,2,3,4,10]),(1,[0,2,3,4,10,29]),(2,[0,3,4,10]),(3,[0,3,4,10]),(4,[0,3,4,10,53]),(5,[0]),(6,[])],[],[]⟩
def aIX:Hints:=⟨[(0,[0,1,4]),(1,[])],[],[]⟩
def aIo:Hints:=⟨[(0,[2,3]),(1,[27,28]),(2,[27,28,29]),(3,[6,27,28]),(4,[6,27,28,35]),(5,[4]),(6,[27,28,40]),(7,[4]),(8,[27,28]),(9,[4])],[(2,[27,28])],[]⟩
def aIs:Hints:=⟨[(0,[0,1]),(1,[1,5,6]),(2,[1,5,6,11]),(3,[1,5,6,7]),(4,[1,5,6,7,18]),(5,[1,5,6]),(6,[1,5,6]),(7,[4])],[(2,[1,5,6])],[]⟩
def aIr:Hints:=⟨[(0,[0,1,2]),(1,[4])],[],[]⟩
def aIQ:Hints:=⟨[(0,[0,1,5]),(1,[0,1,5,6]),(2,[0,5,6,37]),(3,[0]),(4,[])],[],[]⟩
def aIP:Hints:=⟨[(0,[0,2,4]),(1,[0]),(2,[6])],[],[]⟩
def aIR:Hints:=⟨[(0,[0,1,2,3,4,10]),(1,[0,2,3,4,10,34,35,36]),(2,[0,2,3,4,10,34,35,36,37]),(3,[0,2,3,4,10,12,34,35,36]),(4,[0,2,3,4,10,13,34,35,36]),(5,[0,2,3,4,10,13,14,34,35,36]),(6,[0,2,3,4,10,13,34,35,36,82]),(7,[0,2,3,4,10,34,35,36]),(8,[0,2,3,4,10,34,35,36])],[(2,[0,2,3,4,10,34,35,36])],[]⟩
def aIv:Hints:=⟨[(0,[0,1]),(1,[0,1,5,6]),(2,[0,1,5,6,12]),(3,[0,1,5,6,7]),(4,[0,1,5,6,7,24]),(5,[0,1,5,6]),(6,[0,1,5,6]),(7,[4])],[(2,[0,1,5,6])],[]⟩
def aIy:Hints:=⟨[(0,[0,1,2]),(1,[4])],[],[]⟩
def aIu:Hints:=⟨[(0,[2,3]),(1,[2,3]),(2,[4])],[],[]⟩
def aIG:Hints:=⟨[(0,[0,1,2,3,4,10]),(1,[0,2,3,4,10,34,35,36]),(2,[0,2,3,4,10,34,35,36,37]),(3,[0,2,3,4,10,12,34,35,36]),(4,[0,2,3,4,10,13,34,35,36]),(5,[0,2,3,4,10,13,14,34,35,36]),(6,[0,2,3,4,10,13,14,34,35,36,62]),(7,[0,2,3,4,10,13,14,34,35,36,73]),(8,[0,2,3,4,10,34,35,36]),(9,[0,2,3,4,10,13,34,35,36,84]),(10,[0,2,3,4,10,34,35,36]),(11,[0,2,3,4,10,34,35,36])],[(2,[0,2,3,4,10,34,35,36])],[]⟩
def aIZ:Hints:=⟨[(0,[0,1,2,3,4,10]),(1,[0,1,2,3,4,10,11]),(2,[0,1,2,3,4,10,11,12]),(3,[0,1,2,3,4,10,11,12,25]),(4,[]),(5,[0,1,2,3,4,10,11,12,32]),(6,[]),(7,[0,1,2,3,4,10,11,12,39]),(8,[0,1,2,3,4,10,11,12]),(9,[0,1,2,3,4,10,11,12]),(10,[0,1,2,3,4,10,11,12,13,14]),(11,[0,1,2,3,4,10,11,12,13,14,56]),(12,[0,1,2,3,4,10,11,12,13]),(13,[0,1,2,3,4,10,11,12,13]),(14,[0,1,2,3,4,10,11,12,13,14]),(15,[0,1,2,3,4,10,11,12,13,75]),(16,[0,1,2,3,4,10,11,12,13,80]),(17,[0,1,2,3,4,10,11,12,13,97]),(18,[0,2,3,4,10,11,15]),(19,[0,1,2,3,4,10,11]),(20,[0,1,2,3,4,12,16,17]),(21,[0,1,2,3,4,11,12,16]),(22,[0,1,2,3,4,11,12,16,18,19]),(23,[0,1,2,3,4,11,16,18,19,20]),(24,[0,1,2,3,4,11,16,18,19,20,125]),(25,[0,1,2,3,4,10,11,16]),(26,[0,2,3,4,10,11,16]),(27,[0,1,2,3,4,10,11]),(28,[0,1,2,3,4,10,11,16]),(29,[0,1,3,4,10,11,16]),(30,[0,1,2,3,4,10,11])],[(2,[0,1,2,3,4,10,11])],[]⟩
def aIY:Hints:=⟨[(0,[0,1,2,3,8]),(1,[0,1,2,3,8,14]),(2,[0,1,2,3,8]),(3,[0,1,2,3,8,9]),(4,[0,1,2,3,8,9,34]),(5,[0,1,2,3,8,9]),(6,[0,1,2,3,8,9])],[(1,[0,1,2,3,8]),(4,[0,1,2,3,8,9])],[]⟩
def aI5:List (Nat×Hints×Bool):=[(10,aIW,false)]
def XJ:List (Nat×bs×Bool):=[(15,CA,false),(16,Cb,false),(17,BM,false),(19,BU,false),(20,BW,false),(33,B9,true),(34,CB,false),(35,CJ,true),(36,CD,false),(38,Cc,true),(39,Cg,false),(40,BG,false),(41,Cf,false),(42,BS,false),(43,BO,false),(44,BN,false),(46,Cv,false),(47,BX,false),(48,Cw,false),(49,BY,false),(71,tE,true),(72,xf,false),(73,B5,false),(74,CN,true),(75,Cd,false),(76,Ct,false),(84,BJ,false),(85,BL,false),(86,BP,false),(87,BR,false),(88,BQ,false),(89,Cz,false),(90,B_,false),(91,Cy,false),(92,Cx,false),(93,BI,false),(94,BH,false),(95,BK,false),(96,B3,false),(136,CC,false),(137,xg,true),(138,B4,false),(139,B8,false),(140,B7,false),(141,CG,true),(142,CH,true),(143,CF,true),(144,CO,true),(145,tD,true),(151,BT,false),(165,BV,false),(166,B6,false),(167,CK,true),(168,CP,false),(169,Ca,false),(170,CI,false),(171,CE,true),(172,Cr,false),(173,Cs,false),(174,Cq,false),(197,B2,false),(198,B0,false),(199,BZ,false),(200,B1,false),(201,CM,true),(202,Ce,false),(203,Cu,false),(216,Ci,false),(217,CL,false)]
theorem aPL:p3 au (mj XJ):=dP Tq<|dP S7<|dP SD<|dP SL<|dP SN<|dP S3<|dP Tp<|dP Tz<|dP Ts<|dP S6<|dP Ta<|dP Sx<|dP S_<|dP SJ<|dP SG<|dP SE<|dP Tk<|dP SO<|dP Tm<|dP SP<|dP Tt<|dP Mk<|dP SX<|dP TD<|dP S8<|dP Th<|dP SA<|dP SC<|dP SF<|dP SI<|dP SH<|dP To<|dP S4<|dP Tn<|dP Tl<|dP Sz<|dP Sy<|dP SB<|dP SV<|dP Tr<|dP Ml<|dP SW<|dP S0<|dP SZ<|dP Tw<|dP Tx<|dP Tu<|dP TE<|dP Tj<|dP SK<|dP SM<|dP SY<|dP TA<|dP TF<|dP S5<|dP Ty<|dP Tv<|dP Tf<|dP Tg<|dP Te<|dP SU<|dP SR<|dP SQ<|dP SS<|dP TC<|dP S9<|dP Ti<|dP Td<|dP TB<|KB
def aI6:List (Nat×Hints×Bool):=[(11,aIA,false),(28,aID,true),(56,aIC,false),(57,aIt,false),(58,aIL,true),(59,aIH,true),(60,aIK,true),(61,aII,true),(107,aIz,false),(108,aIx,false),(109,aIw,false),(110,aIE,true),(111,aIF,true),(112,aIB,false),(113,aIJ,true),(160,aIv,false),(161,aIy,false),(162,aIu,false),(163,aIG,true)]
def XK:List (Nat×bs×Bool):=[]
theorem aPM:p3 au (mj XK):=KB
def rF:List (Nat×Hints×Bool):=[(12,aIM,false),(29,aIO,true),(62,aIN,false),(63,aIV,true),(64,aIp,false),(65,aIq,false),(66,aIT,true),(114,aIU,true),(115,aIS,true),(116,aIX,false),(117,aIo,false),(118,aIs,false),(119,aIr,false),(120,aIQ,true),(121,aIP,true),(122,aIR,true),(164,aIZ,false),(189,aIY,false)]
def XL:List (Nat×bs×Bool):=[(153,zv,false),(186,Mm,false),(187,Ch,false)]
theorem aPN:p3 au (mj XL):=dP Tc<|dP aFM<|dP Tb<|KB
def aI7:List (Nat×Hints×Bool):=[(9,aI0,false),(27,aI1,false)]
def XM:List (Nat×bs×Bool):=[]
theorem aPO:p3 au (mj XM):=KB
end Go.aL.C
namespace Go.aL.C
open Go.aL
def uq:V:=.agg jQ.row
def v_:V:=.agg yJ.row
def Qn:V:=.agg (f6 jQ yJ).row
def Ee:List (Nat×List V×V):=[(37,[uq],.tuple [.int .i64 0,.int .i64 0,.int .i64 0]),(37,[Qn],.tuple [.int .i64 0,.int .i64 0,.int .i64 0]),(31,[uq,v_],.tuple [Qn,.int .i64 0]),(32,[uq,v_],.int .i64 0)]
def ox(n:Int):List V:=[.int .i64 n]
def Si:V:=.tuple [.agg [.slice [[.bool true,.int .i64 0,.int .i64 0,.int .i64 1,.int .i64 0,.int .i64 1,.int .i64 100,.int .i64 200,.bool false],[.bool true,.int .i64 1,.int .i64 0,.int .i64 1,.int .i64 1,.int .i64 2,.int .i64 260,.int .i64 400,.bool false]] .cx,
 .int .i64 100,.int .i64 400,.int .i64 2,.int .i64 300,.int .i64 0,.slice [[.int .i64 0,.int .i64 0,.int .i64 0,.int .i64 150],[.int .i64 0,.int .i64 1,.int .i64 1,.int .i64 150]] .cx],.int .i64 0]
def WW:V:=.tuple [.slice [[.slice [ox 0,ox (-1),ox (-1)] .cx],[.slice [ox 0,ox 200,ox 500] .cx],[.slice [ox 0,ox 200,ox 400] .cx]] .cx,.int .i64 0]
def W9:V:=.tuple [.slice [ox 0,ox 200,ox 400] .cx,.int .i64 0]
theorem aEL:ww au aI5 XJ (fun t=>rn Ee [] (mj t) 3000 0 10 [uq,v_] []) none=some (Si,[]):=by kernel_rfl
theorem aOr:ww au aI6 XK (fun t=>rn Ee [(28,58)] (mj t) 3000 0 11 [uq,v_] []) none=some (WW,[]):=by kernel_rfl
theorem aOM:ww au rF XL (fun t=>rn Ee [] (mj t) 3000 0 12 [uq,v_] []) none=some (W9,[]):=by kernel_rfl
def NY:List (Nat×List V×V):=[(10,[uq,v_],Si),(11,[uq,v_],WW),(12,[uq,v_],W9)]
theorem ab5:ww au aI7 XM (fun t=>rn NY [] (mj t) 60 0 9 [] []) none=some (.bool true,[]):=by kernel_rfl
theorem NX:A7 au Ee:=by
 have jn:=Li jQ yJ KJ;intro f xs v h;simp only[Ee,jt,mQ,or_false,d_] at h;rcases h with⟨rfl,rfl,rfl⟩|⟨rfl,rfl,rfl⟩|⟨rfl,rfl,rfl⟩|⟨rfl,rfl,rfl⟩
 . exact⟨rfl,Es jQ KK KJ⟩
 . exact⟨rfl,Es _ (Qt jQ yJ KK) jn⟩
 . exact⟨rfl,PE jQ yJ KK KJ XY⟩
 . exact⟨rfl,PH jQ yJ KK KJ XY⟩
theorem FP{mI:List (Nat×List V×V)}(ao:A7 au mI){l:List (Nat×Hints×Bool)}{XA:List (Nat×bs×Bool)}(aKk:p3 au (mj XA)){pops:List (Nat×Nat)}{n f:Nat}{args:List V}{v:V}(hu:v.under 0=true)(h:ww au l XA (fun t=>rn mI pops (mj t) n 0 f args []) none=some (v,[])):bT au f args (fun x=>x=v):=by
 obtain⟨t,aV,he⟩:=Yi aKk h (by simp);exact aNg ao aV n he hu
theorem aLd:A7 au NY:=by
 intro f xs v h;simp only[NY,jt,mQ,or_false,d_] at h;rcases h with⟨rfl,rfl,rfl⟩|⟨rfl,rfl,rfl⟩|⟨rfl,rfl,rfl⟩
 . exact⟨rfl,FP NX aPL rfl aEL⟩
 . exact⟨rfl,FP NX aPM rfl aOr⟩
 . exact⟨rfl,FP NX aPN rfl aOM⟩
theorem ab6:bT au C.JI [] (fun v=>v=.bool true):=FP aLd aPO rfl ab5
end Go.aL.C
namespace Go.aL.C
open Go.aL
def RI:List gC:=[.int .i64,.int .i64,.int .i64,.bool,.bool]
theorem aNR{vs:List V}(h:mV RI vs):∃x:bG,vs=x.row/\x.wf:=by
 obtain⟨_,_,rfl,aa,h⟩:=eV h;obtain⟨_,_,rfl,af,h⟩:=eV h;obtain⟨_,_,rfl,az,h⟩:=eV h;obtain⟨_,_,rfl,bh,h⟩:=eV h;obtain⟨_,_,rfl,bC,h⟩:=eV h;cases tM h;obtain⟨bW,rfl,aT⟩:=hJ aa;obtain⟨b8,rfl,a2⟩:=hJ af;obtain⟨cN,rfl,bJ⟩:=hJ az;obtain⟨dl,rfl⟩:=qd bh;obtain⟨e2,rfl⟩:=qd bC;exact⟨⟨bW,b8,cN,dl,e2⟩,rfl,aT,a2,bJ⟩
def RF:List gC:=[.str,.int .i64,.int .i64,.int .i64,.int .i64,.int .i64]
theorem aNN{vs:List V}(h:mV RF vs):∃x:ds,vs=x.row/\x.wf:=by
 obtain⟨_,_,rfl,aa,h⟩:=eV h;obtain⟨_,_,rfl,af,h⟩:=eV h;obtain⟨_,_,rfl,az,h⟩:=eV h;obtain⟨_,_,rfl,bh,h⟩:=eV h;obtain⟨_,_,rfl,bC,h⟩:=eV h;obtain⟨_,_,rfl,ca,h⟩:=eV h;cases tM h;obtain⟨bW,rfl,aT⟩:=HE aa;obtain⟨b8,rfl,a2⟩:=hJ af;obtain⟨cN,rfl,bJ⟩:=hJ az;obtain⟨dl,rfl,c8⟩:=hJ bh;obtain⟨e2,rfl,eI⟩:=hJ bC;obtain⟨fV,rfl,eZ⟩:=hJ ca;exact⟨⟨bW,b8,cN,dl,e2,fV⟩,rfl,aT,a2,bJ,c8,eI,eZ⟩
def RJ:List gC:=[.str,.int .i64,.bool,.int .i64]
theorem aNS{vs:List V}(h:mV RJ vs):∃x:Stop,vs=x.row/\x.wf:=by
 obtain⟨_,_,rfl,aa,h⟩:=eV h;obtain⟨_,_,rfl,af,h⟩:=eV h;obtain⟨_,_,rfl,az,h⟩:=eV h;obtain⟨_,_,rfl,bh,h⟩:=eV h;cases tM h;obtain⟨bW,rfl,aT⟩:=HE aa;obtain⟨b8,rfl,a2⟩:=hJ af;obtain⟨cN,rfl⟩:=qd az;obtain⟨dl,rfl,c8⟩:=hJ bh;exact⟨⟨bW,b8,cN,dl⟩,rfl,aT,a2,c8⟩
def RG:List gC:=[.str,.int .i64,.bool]
theorem aNP{vs:List V}(h:mV RG vs):∃x:fo,vs=x.row/\x.wf:=by
 obtain⟨_,_,rfl,aa,h⟩:=eV h;obtain⟨_,_,rfl,af,h⟩:=eV h;obtain⟨_,_,rfl,az,h⟩:=eV h;cases tM h;obtain⟨bW,rfl,aT⟩:=HE aa;obtain⟨b8,rfl,a2⟩:=hJ af;obtain⟨cN,rfl⟩:=qd az;exact⟨⟨bW,b8,cN⟩,rfl,aT,a2⟩
def RH:List gC:=[.int .i64,.int .i64,.int .i64,.str,.int .i64,.bool,.bool,.slice RI]
theorem aNQ{vs:List V}(h:mV RH vs):∃x:bM,vs=x.row/\x.wf:=by
 obtain⟨_,_,rfl,aa,h⟩:=eV h;obtain⟨_,_,rfl,af,h⟩:=eV h;obtain⟨_,_,rfl,az,h⟩:=eV h;obtain⟨_,_,rfl,bh,h⟩:=eV h;obtain⟨_,_,rfl,bC,h⟩:=eV h;obtain⟨_,_,rfl,ca,h⟩:=eV h;obtain⟨_,_,rfl,dY,h⟩:=eV h;obtain⟨_,_,rfl,cp,h⟩:=eV h;cases tM h;obtain⟨bW,rfl,aT⟩:=hJ aa;obtain⟨b8,rfl,a2⟩:=hJ af;obtain⟨cN,rfl,bJ⟩:=hJ az;obtain⟨dl,rfl,c8⟩:=HE bh;obtain⟨e2,rfl,eI⟩:=hJ bC;obtain⟨fV,rfl⟩:=qd ca;obtain⟨jx,rfl⟩:=qd dY;obtain⟨n8,aAy,rfl,lH,aLh,_⟩:=xq (fun vs h=>aNR h) cp;exact⟨⟨bW,b8,cN,dl,e2,fV,jx,n8,aAy⟩,rfl,aT,a2,bJ,c8,eI,lH,aLh⟩
def RD:List gC:=[.int .i64,.int .i64,.int .i64,.int .i64,.bool]
theorem aNK{vs:List V}(h:mV RD vs):∃x:dG,vs=x.row/\x.wf:=by
 obtain⟨_,_,rfl,aa,h⟩:=eV h;obtain⟨_,_,rfl,af,h⟩:=eV h;obtain⟨_,_,rfl,az,h⟩:=eV h;obtain⟨_,_,rfl,bh,h⟩:=eV h;obtain⟨_,_,rfl,bC,h⟩:=eV h;cases tM h;obtain⟨bW,rfl,aT⟩:=hJ aa;obtain⟨b8,rfl,a2⟩:=hJ af;obtain⟨cN,rfl,bJ⟩:=hJ az;obtain⟨dl,rfl,c8⟩:=hJ bh;obtain⟨e2,rfl⟩:=qd bC;exact⟨⟨bW,b8,cN,dl,e2⟩,rfl,aT,a2,bJ,c8⟩
def RE:List gC:=[.int .i64,.int .i64,.int .i64,.bool]
theorem aNM{vs:List V}(h:mV RE vs):∃x:Path,vs=x.row/\x.wf:=by
 obtain⟨_,_,rfl,aa,h⟩:=eV h;obtain⟨_,_,rfl,af,h⟩:=eV h;obtain⟨_,_,rfl,az,h⟩:=eV h;obtain⟨_,_,rfl,bh,h⟩:=eV h;cases tM h;obtain⟨bW,rfl,aT⟩:=hJ aa;obtain⟨b8,rfl,a2⟩:=hJ af;obtain⟨cN,rfl,bJ⟩:=hJ az;obtain⟨dl,rfl⟩:=qd bh;exact⟨⟨bW,b8,cN,dl⟩,rfl,aT,a2,bJ⟩
def LP:List gC:=[.slice RJ,.slice RG,.slice RH,.slice RD,.slice RE,.slice RF,.int .i64,.int .i64,.int .i64]
theorem aNL{vs:List V}(h:mV LP vs):∃n:Net,vs=n.row/\n.wf:=by
 obtain⟨_,_,rfl,aa,h⟩:=eV h;obtain⟨_,_,rfl,af,h⟩:=eV h;obtain⟨_,_,rfl,az,h⟩:=eV h;obtain⟨_,_,rfl,bh,h⟩:=eV h;obtain⟨_,_,rfl,bC,h⟩:=eV h;obtain⟨_,_,rfl,ca,h⟩:=eV h;obtain⟨_,_,rfl,dY,h⟩:=eV h;obtain⟨_,_,rfl,cp,h⟩:=eV h;obtain⟨_,_,rfl,eU,h⟩:=eV h;cases tM h;obtain⟨bW,eX,rfl,aT,cZ,_⟩:=xq (fun vs h=>aNS h) aa;obtain⟨b8,g1,rfl,a2,e4,_⟩:=xq (fun vs h=>aNP h) af;obtain⟨cN,rg,rfl,bJ,mJ,_⟩:=xq (fun vs h=>aNQ h) az;obtain⟨dl,wU,rfl,c8,Eg,_⟩:=xq (fun vs h=>aNK h) bh;obtain⟨e2,wV,rfl,eI,aLf,_⟩:=xq (fun vs h=>aNM h) bC;obtain⟨fV,ayv,rfl,eZ,aLg,_⟩:=xq (fun vs h=>aNN h) ca;obtain⟨jx,rfl,iI⟩:=hJ dY;obtain⟨n8,rfl,lH⟩:=hJ cp;obtain⟨Lf,rfl,tI⟩:=hJ eU;exact⟨⟨bW,b8,cN,dl,e2,⟨fV,ayv,jx,n8,Lf⟩,eX,g1,rg,wU,wV⟩,rfl,⟨⟨aT,cZ⟩,⟨a2,e4⟩,⟨bJ,mJ⟩,⟨c8,Eg⟩,⟨eI,aLf⟩,⟨eZ,aLg,iI,lH,tI⟩⟩⟩
def LQ:List gC:=[.int .i64,.int .i64,.int .i64,.bool,.int .i64,.int .i64,.bool,.bool,.int .i64,.bool]
theorem aNO{vs:List V}(h:mV LQ vs):∃q:Query,vs=q.row:=by
 obtain⟨_,_,rfl,aa,h⟩:=eV h;obtain⟨_,_,rfl,af,h⟩:=eV h;obtain⟨_,_,rfl,az,h⟩:=eV h;obtain⟨_,_,rfl,bh,h⟩:=eV h;obtain⟨_,_,rfl,bC,h⟩:=eV h;obtain⟨_,_,rfl,ca,h⟩:=eV h;obtain⟨_,_,rfl,dY,h⟩:=eV h;obtain⟨_,_,rfl,cp,h⟩:=eV h;obtain⟨_,_,rfl,eU,h⟩:=eV h;obtain⟨_,_,rfl,fy,h⟩:=eV h;cases tM h;obtain⟨bW,rfl,_⟩:=hJ aa;obtain⟨b8,rfl,_⟩:=hJ af;obtain⟨cN,rfl,_⟩:=hJ az;obtain⟨dl,rfl⟩:=qd bh;obtain⟨e2,rfl,_⟩:=hJ bC;obtain⟨fV,rfl,_⟩:=hJ ca;obtain⟨jx,rfl⟩:=qd dY;obtain⟨n8,rfl⟩:=qd cp;obtain⟨Lf,rfl,_⟩:=hJ eU;obtain⟨abi,rfl⟩:=qd fy;exact⟨⟨bW,b8,cN,dl,e2,fV,jx,n8,Lf,abi⟩,rfl⟩
end Go.aL.C
