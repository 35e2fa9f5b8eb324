/- A part of the proof of TopFares: the abstract machine, the code that the statement reaches, the contracts of its functions. Part 3. The text is made short by a program. -/
import Derived.Test.YtbndjigedmpplaaGreatF2
set_option linter.unusedSimpArgs false
set_option linter.unusedVariables false
set_option linter.unusedSectionVars false
set_option maxHeartbeats 1000000
set_option maxRecDepth 10000
open Bool renaming and_eq_true->b_,and_self->eR,false_eq_true->i_,not_eq_true'->lH
open Int renaming toNat_natCast->lI
open List renaming append_assoc->eB,append_nil->fU,drop_eq_getElem_cons->qx,drop_zero->l9,ext_getElem?->oF,getElem?_append_left->gh,getElem?_append_right->jX,getElem?_cons_zero->ja,getElem?_eq_getElem->gd,getElem?_eq_none->lJ,getElem?_eq_some_iff->bn,getElem?_map->gY,getElem?_of_mem->ij,getElem?_set_ne->dx,getElem?_set_self->eC,getElem?_take_of_lt->hs,length_append->dT,length_cons->dz,length_map->eD,length_nil->gZ,length_set->eO,length_take->iw,map_cons->hQ,map_nil->lb,mem_append->g_,mem_cons->jm,mem_filter->oH,mem_map->ld,mem_of_getElem?->dO,mem_range->jY,mem_singleton->ht,range->c1,replicate->fV,take_add_one->hR,take_length->g0,take_of_length_le->g1
open Nat renaming add_zero->iJ,le_refl->cF,le_trans->jH,lt_succ_iff_lt_or_eq->jn,not_lt_zero->fb,sub_self->mH,zero_add->ev,zero_le->fG
open Ne renaming symm->gi
open Option renaming map_eq_some_iff->dJ,map_some->mI
namespace Go.aQ.C
open Go.aQ
theorem W7{n:Nat}:∀{vs:List V},(∀v∈vs,v.under n=true)->cS n vs=true
 |[],_=>rfl
 |v::vs,h=>by
  simp only[cS,h v (by simp),W7 (vs:=vs) fun w hw=>h w (by simp[hw]),eR]
theorem Ni{n:Nat}:∀{M:Mem},(∀B∈M,B.under n=true)->cL n M=true
 |[],_=>rfl
 |B::M,h=>by
  simp only[cL,h B (by simp),Ni (M:=M) fun w hw=>h w (by simp[hw]),eR]
def ie(N:Nat)(f:Nat->Int):List (List V):=(c1 N).map fun j=>[.int .i64 (f j)]
def qo(N n:Nat):List V:=(c1 n).map fun i=>.aX (2*i+1) (N -1) 0 N
def s_(N n:Nat)(W:Nat->Nat->Int)(q:Nat):a2:=if q=0 then .vec (qo N n) n else if q%2=1 then .arr 1 (ie N (W (q/2))) (N -1) 0 else .vec [.aX (q -1) (N -1) 0 N] 0
def fd(N n:Nat)(W:Nat->Nat->Int):Mem:=(c1 (2*n+1)).map (s_ N n W)
theorem sN(N:Nat)(f:Nat->Int):(ie N f).length=N:=by simp[ie]
theorem sM{N j:Nat}(f:Nat->Int)(h:j<N):(ie N f)[j]? =some [.int .i64 (f j)]:=by simp[ie,h]
theorem V2(N j:Nat)(f:Nat->Int)(x:Int):(ie N f).set j [.int .i64 x]=ie N (fun b=>if b=j then x else f b):=by
 refine oF fun q=>?_;rw[List.getElem?_set];by_cases aG:q<N
 . rw[sM _ aG]
   by_cases h:j=q
   . subst h;rw[if_pos rfl,if_pos (by rw[sN];exact aG),sM _ aG,if_pos rfl]
   . rw[if_neg h,sM _ aG,if_neg (gi h)]
 . rw[lJ (by rw[sN];omega),lJ (l:=ie N _) (by rw[sN];omega)]
   split
   . rw[if_neg (by rw[sN];omega)]
   . rfl
theorem NS{N:Nat}{f g:Nat->Int}(h:∀j,j<N->f j=g j):ie N f=ie N g:=by
 refine List.map_congr_left fun j ap=>?_;rw[h j (jY.1 ap)]
theorem Ao(N n:Nat):(qo N n).length=n:=by simp[qo]
theorem NE{N n i:Nat}(h:i<n):(qo N n)[i]? =some (.aX (2*i+1) (N -1) 0 N):=by simp[qo,h]
theorem ig(N n:Nat)(W:Nat->Nat->Int):(fd N n W).length=2*n+1:=by simp[fd]
theorem yr{N n q:Nat}(W:Nat->Nat->Int)(h:q<2*n+1):(fd N n W)[q]? =some (s_ N n W q):=by simp[fd,h]
theorem Eh(N n:Nat)(W:Nat->Nat->Int):(fd N n W)[0]? =some (.vec (qo N n) n):=yr W (by omega)
theorem Ei{N n i:Nat}(W:Nat->Nat->Int)(h:i<n):(fd N n W)[2*i+1]? =some (.arr 1 (ie N (W i)) (N -1) 0):=by
 rw[yr W (by omega),s_,if_neg (by omega),if_pos (by omega),show(2*i+1)/2=i by omega]
theorem aMj{N n:Nat}{W V:Nat->Nat->Int}(h:∀i j,i<n->j<N->W i j=V i j):fd N n W=fd N n V:=by
 refine List.map_congr_left fun q aG=>?_;have:=jY.1 aG;simp only[s_];split
 . rfl
 . split
   . rw[NS fun j ap=>h (q/2) j (by omega) ap]
   . rfl
def qu(W:Nat->Nat->Int)(i j:Nat)(x:Int):Nat->Nat->Int:=fun a b=>if a=i/\b=j then x else W a b
theorem WD{N n i j:Nat}(W:Nat->Nat->Int)(x:Int)(h:i<n):(fd N n W).set (2*i+1) (.arr 1 (ie N (fun b=>if b=j then x else W i b)) (N -1) 0)=fd N n (qu W i j x):=by
 refine oF fun q=>?_;rw[List.getElem?_set];by_cases aG:q<2*n+1
 . rw[yr _ aG,yr _ aG]
   by_cases af:2*i+1=q
   . rw[if_pos af,if_pos (by rw[ig];omega),<-af,s_,if_neg (by omega),if_pos (by omega),show(2*i+1)/2=i by omega]
     congr 2
     refine NS fun b _=>?_;simp[qu]
   . rw[if_neg af]
     simp only[s_];split
     . rfl
     . split
       . congr 2
         refine NS fun b _=>?_;rw[qu,if_neg (by omega)]
       . rfl
 . rw[lJ (by rw[ig];omega),lJ (l:=fd N n (qu W i j x)) (by rw[ig];omega),if_neg (by omega)]
theorem aMl(N n:Nat)(W:Nat->Nat->Int):(fd N n W++[a2.arr 1 (ie N (W n)) (N -1) 0,.vec [.aX (2*n+1) (N -1) 0 N] 0]).set 0 (.vec (qo N (n+1)) (n+1))=fd N (n+1) W:=by
 refine oF fun q=>?_;rw[List.getElem?_set];by_cases a4:0=q
 . subst a4
   rw[if_pos rfl,if_pos (by simp),Eh]
 . rw[if_neg a4]
   by_cases U:q<2*n+1
   . rw[gh (by rw[ig];exact U),yr _ U,yr _ (by omega)]
     simp only[s_,if_neg (gi a4)]
   . rw[jX (by rw[ig];omega),ig]
     by_cases af:q=2*n+1
     . subst af
       rw[Ei _ (by omega)];simp
     . by_cases ay:q=2*n+2
       . subst ay
         rw[yr _ (by omega),s_,if_neg (by omega),if_neg (by omega),show 2*n+2 -(2*n+1)=1 by omega];rfl
       . rw[lJ (by simp;omega),lJ (by rw[ig];omega)]
theorem aMk(N n:Nat)(W:Nat->Nat->Int):cL (2*n+1) (fd N n W)=true:=by
 refine Ni fun B bY=>?_;obtain⟨q,aG,rfl⟩:=ld.1 bY;have aG:=jY.1 aG;simp only[s_];split
 . refine W7 fun v aq=>?_
   obtain⟨i,hi,rfl⟩:=ld.1 aq;have:=jY.1 hi;simp[V.under];omega
 . split
   . rfl
   . simp[a2.under,cS,V.under];omega
def eE:Int:=1099511627776
def As(i:Nat):Nat->V
 |0=>.slice [] .full
 |k+1=>.aX (2*i+1) k 0 (k+1)
def qt:Nat->Mem
 |0=>[]
 |k+1=>[.arr 1 (fV (k+1) [.int .i64 eE]) k 0]
theorem aLe(N i k:Nat)(W:Nat->Nat->Int)(ao:k<=64):d0 false 1 8 (As i k) (.slice [[.int .i64 1099511627776]] .full) (fd N i W++qt k)=some (As i (k+1),fd N i W++qt (k+1)):=by
 cases k with
 |zero=>simp[As,qt,d0,eJ,g3,fq,ig,eE]
 |succ k=>
  have U:(fd N i W++qt (k+1))[2*i+1]? =some (.arr 1 (fV (k+1) [.int .i64 eE]) k 0):=by
   rw[jX (by rw[ig];exact cF _),ig,mH];rfl
  have af:decide ((k+1+1)*16<=2^48)=true:=decide_eq_true (by omega);have ay:(fd N i W++qt (k+1)).set (2*i+1) (.arr 1 (fV (k+1) [.int .i64 eE]++[[.int .i64 1099511627776]]) (k+1) 0)=fd N i W++qt (k+2):=by
   rw[List.set_append,if_neg (by rw[ig];omega),ig,mH]
   congr 1
   rw[qt,qt,List.set_cons_zero,List.replicate_succ' (n:=k+1)];rfl
  simp only[As,d0,eJ,fq,dz,gZ,ev,beq_self_eq_true,cond_true,g3,U,List.length_replicate,eR,Nat.reduceMul,af,ay]
theorem aLg{N i:Nat}(h:0<N):As i N=.aX (2*i+1) (N -1) 0 N:=by
 cases N with
 |zero=>cases h
 |succ k=>rfl
theorem aLd{N:Nat}(h:0<N):qt N=[.arr 1 (ie N fun _=>eE) (N -1) 0]:=by
 cases N with
 |zero=>cases h
 |succ k=>
  have:fV (k+1) [V.int .i64 eE]=ie (k+1) fun _=>eE:=by
   refine oF fun q=>?_;by_cases aG:q<k+1
   . rw[sM _ aG,List.getElem?_replicate,if_pos aG]
   . rw[lJ (by simp;omega),lJ (by rw[sN];omega)]
  rw[qt,this];rfl
theorem aMm(N n:Nat)(aK:n<=64):d0 false 1 24 (.aX 0 n 0 n) (.aX (2*n+2) 0 0 1) (fd N n (fun _ _=>eE)++[a2.arr 1 (ie N fun _=>eE) (N -1) 0]++[a2.vec [.aX (2*n+1) (N -1) 0 N] 0])=
 some (.aX 0 (n+1) 0 (n+1),fd N (n+1) fun _ _=>eE):=by
 have e:fd N n (fun _ _=>eE)++[a2.arr 1 (ie N fun _=>eE) (N -1) 0]++[a2.vec [.aX (2*n+1) (N -1) 0 N] 0]=fd N n (fun _ _=>eE)++[.arr 1 (ie N fun _=>eE) (N -1) 0,.vec [.aX (2*n+1) (N -1) 0 N] 0]:=by simp
 rw[e];have U:(fd N n (fun _ _=>eE)++[a2.arr 1 (ie N fun _=>eE) (N -1) 0,.vec [.aX (2*n+1) (N -1) 0 N] 0])[2*n+2]? =some (.vec [.aX (2*n+1) (N -1) 0 N] 0):=by
  rw[jX (by rw[ig];omega),ig,show 2*n+2 -(2*n+1)=1 by omega];rfl
 have a4:(fd N n (fun _ _=>eE)++[a2.arr 1 (ie N fun _=>eE) (N -1) 0,.vec [.aX (2*n+1) (N -1) 0 N] 0])[0]? =some (.vec (qo N n) n):=by
  rw[gh (by rw[ig];omega),Eh]
 have af:decide ((n+1)*48<=2^48)=true:=decide_eq_true (by omega);have ay:qo N n++[.aX (2*n+1) (N -1) 0 N]=qo N (n+1):=by simp[qo,List.range_succ]
 have be:=aMl N n (fun _ _=>eE);simp only[d0,eJ,U,Jj,beq_self_eq_true,V.iA,eR,cond_true,EW,a4,Ao,Nat.reduceMul,af,ay,be]
end Go.aQ.C
namespace Go.aQ.C
open Go.aQ
theorem b6{M:Mem}{i:Nat}{B:a2}(h:M[i]? =some B)(L:Mem):(M++L)[i]? =some B:=by
 rw[gh (bn.1 h).1,h]
theorem kI{α:Type}{M:List α}{n:Nat}(h:M.length=n)(L:List α):(M++L).take n=M:=by
 subst h;simp
def qi(N:Nat)(W:Nat->Nat->Int):V:=.slice ((c1 N).map fun i=>[.slice (ie N (W i)) .cv]) .cv
theorem UO{α:Type}{f:V->Option V}{g h:α->V}:∀(l:List α),(∀x∈l,f (g x)=some (h x))->ke f (l.map g)=some (l.map h)
 |[],_=>rfl
 |x::l,ab=>by
  simp only[hQ,ke,ab x (by simp),UO l fun y aD=>ab y (by simp[aD])]
theorem Px{α:Type}{h:α->V}:∀(l:List α),(∀x∈l,(h x).kd=true)->hy (l.map h)=true
 |[],_=>rfl
 |x::l,ab=>by simp only[hQ,hy,ab x (by simp),Px l fun y aD=>ab y (by simp[aD]),eR]
theorem aDz{M:Mem}{base n id ver start len:Nat}{cells cs:List V}(aj:decide (id<base)=false)(bb:M[id]? =some (.vec cells ver))(ag:start+len<=cells.length)(ar:ke (fu M base n) ((cells.drop start).take len)=some cs)(ax:hy cs=true):
 fu M base (n+1) (.aX id ver start len)=some (.slice (cs.map fun x=>[x]) .cv):=by
 simp only[fu,aj,cond_false,bb,beq_self_eq_true,decide_eq_true ag,eR,cond_true,ar,ax]
theorem zf{M:Mem}{base n id ver start len sz fz:Nat}{rows:List (List V)}(aj:decide (id<base)=false)(bb:M[id]? =some (.arr sz rows ver fz))(ag:start+len<=rows.length):
 fu M base (n+1) (.aX id ver start len)=some (.slice ((rows.drop start).take len) .cv):=by
 simp only[fu,aj,cond_false,bb,beq_self_eq_true,decide_eq_true ag,eR,cond_true]
theorem aMo(N:Nat)(W:Nat->Nat->Int):fu (fd N N W) 0 20 (.aX 0 N 0 N)=some (qi N W):=by
 have U:ke (fu (fd N N W) 0 19) (((qo N N).drop 0).take N)=some ((c1 N).map fun i=>.slice (ie N (W i)) .cv):=by
  rw[l9,g1 (by rw[Ao];omega)];refine UO _ fun i hi=>?_;have hi:=jY.1 hi;have e:((ie N (W i)).drop 0).take N=ie N (W i):=by rw[l9,g1 (by rw[sN];omega)]
  have:=zf (M:=fd N N W) (base:=0) (n:=18) (len:=N) (start:=0) (by simp) (Ei W hi) (by rw[sN];omega);rw[e] at this;exact this
 have:=aDz (n:=19) (M:=fd N N W) (base:=0) (by simp) (Eh N N W) (by rw[Ao];omega) U (Px _ fun _ _=>rfl);rw[List.map_map] at this;exact this
theorem aMq{N i j:Nat}(W:Nat->Nat->Int)(h:i<N)(x:Int)(L:Mem):(fd N N W++L).set (2*i+1) (.arr 1 ((ie N (W i)).set j [.int .i64 x]) (N -1) 0)=fd N N (qu W i j x)++L:=by
 rw[V2,List.set_append,if_pos (by rw[ig];omega),WD W x h]
theorem aMp{N i j:Nat}(W:Nat->Nat->Int)(h:i<N)(x:Int):(fd N N W).set (2*i+1) (.arr 1 ((ie N (W i)).set j [.int .i64 x]) (N -1) 0)=fd N N (qu W i j x):=by
 rw[V2,WD W x h]
theorem Oe{N:Nat}{W:Nat->Nat->Int}{vs:List V}(L:Mem)(h:cS (2*N+1) vs=true):hK (2*N+1) vs (fd N N W++L)=true:=by
 have U:2*N+1<=(fd N N W++L).length:=by rw[dT,ig];omega
 simp only[hK,h,decide_eq_true U,kI (ig N N W) L,aMk,eR]
def Path.jR(p:Path)(N:Nat):Prop:=(0<=p.src/\p.src<N)/\(0<=p.dst/\p.dst<N)/\1<=p.dI/\p.dI<=14400
structure oK(l:List Path)(N:Nat)(free:Bool)(W:Nat->Nat->Int):Prop where
 qX:∀p∈l,(free=true->p.free=true)->W p.src.toNat p.dst.toNat<=p.dI
 v7:∀i j m,i<N->j<N->m<N->W i j<=W i m+W m j
 qn:∀D:Nat->Int,(∀i,i<N->0<=D i/\D i<=eE)->(∀p∈l,(free=true->p.free=true)->D p.dst.toNat<=D p.src.toNat+p.dI)->∀i j,i<N->j<N->D j -D i<=W i j
 kl:∀i j,i<N->j<N->0<W i j/\W i j<=eE
structure yJ(l:List Path)(N:Nat)(free:Bool)(k:Nat)(W:Nat->Nat->Int):Prop where
 qX:∀(i:Nat)(p:Path),i<k->l[i]? =some p->(free=true->p.free=true)->W p.src.toNat p.dst.toNat<=p.dI
 qn:∀D:Nat->Int,(∀i,i<N->0<=D i/\D i<=eE)->(∀p∈l,(free=true->p.free=true)->D p.dst.toNat<=D p.src.toNat+p.dI)->∀i j,i<N->j<N->D j -D i<=W i j
 kl:∀i j,i<N->j<N->0<W i j/\W i j<=eE
theorem aAJ{l:List Path}{N k:Nat}{free:Bool}{W:Nat->Nat->Int}{p:Path}(h:yJ l N free k W)(ax:l[k]? =some p)(aC:¬(free=true->p.free=true)):yJ l N free (k+1) W:=
 ⟨fun i q hi aG vc=>by
   rcases jn.1 hi with U|U
   . exact h.qX i q U aG vc
   . subst U;rw[ax] at aG;cases aG;exact absurd vc aC,h.qn,h.kl⟩
theorem QP{l:List Path}{N k:Nat}{free:Bool}{W:Nat->Nat->Int}{p:Path}(h:yJ l N free k W)(ax:l[k]? =some p)(aC:free=true->p.free=true)(hi:p.jR N):
 yJ l N free (k+1) (qu W p.src.toNat p.dst.toNat (min (W p.src.toNat p.dst.toNat) p.dI)):=by
 obtain⟨U,af,ay,be⟩:=hi;refine⟨fun i q hi aG vc=>?_,fun D en iQ i j hi ap=>?_,fun i j hi ap=>?_⟩
 . unfold qu
   split
   . rename_i e
     rcases jn.1 hi with bv|bv
     . have:=h.qX i q bv aG vc
       rw[e.1,e.2] at this;omega
     . subst bv;rw[ax] at aG;cases aG;omega
   . rename_i e
     rcases jn.1 hi with bv|bv
     . exact h.qX i q bv aG vc
     . subst bv;rw[ax] at aG;cases aG;exact absurd ⟨rfl,rfl⟩ e
 . have:=h.qn D en iQ i j hi ap
   unfold qu;split
   . rename_i e
     have:=iQ p (dO ax) aC;rw[<-e.1,<-e.2] at this⊢;omega
   . exact this
 . have:=h.kl i j hi ap
   unfold qu;split
   . rename_i e
     rw[<-e.1,<-e.2];simp only[eE] at*;omega
   . exact this
def i2(W:Nat->Nat->Int)(k i j:Nat):Nat->Nat->Int:=fun a b=>if a<i∨(a=i/\b<j) then min (W a b) (W a k+W k b) else W a b
theorem aJ2{W:Nat->Nat->Int}{k N:Nat}(h:∀i j,i<N->j<N->0<W i j/\W i j<=eE)(ao:k<N)(i j:Nat){a:Nat}(bk:a<N):i2 W k i j a k=W a k:=by
 have:=(h k k ao ao).1;unfold i2;split<;>omega
theorem aJ5{W:Nat->Nat->Int}{k N:Nat}(h:∀i j,i<N->j<N->0<W i j/\W i j<=eE)(ao:k<N)(i j:Nat){b:Nat}(aj:b<N):i2 W k i j k b=W k b:=by
 have:=(h k k ao ao).1;unfold i2;split<;>omega
theorem aJ1(W:Nat->Nat->Int)(k i j:Nat):i2 W k i j i j=W i j:=by
 unfold i2;rw[if_neg (by omega)]
theorem aJ4(W:Nat->Nat->Int)(k i j:Nat):qu (i2 W k i j) i j (min (W i j) (W i k+W k j))=i2 W k i (j+1):=by
 funext a b;unfold qu i2;by_cases h:a=i/\b=j
 . obtain⟨rfl,rfl⟩:=h
   rw[if_pos ⟨rfl,rfl⟩,if_pos (by omega)]
 . rw[if_neg h]
   by_cases af:a<i∨(a=i/\b<j)
   . rw[if_pos af,if_pos (by omega)]
   . rw[if_neg af,if_neg (by omega)]
theorem aJ6(W:Nat->Nat->Int)(k:Nat):i2 W k 0 0=W:=by
 funext a b;unfold i2;rw[if_neg (by omega)]
theorem aJ3{N:Nat}(W:Nat->Nat->Int)(k i:Nat):∀a b,a<N->b<N->i2 W k i N a b=i2 W k (i+1) 0 a b:=fun a b _ aj=>by
 unfold i2;by_cases af:a<i∨(a=i/\b<N)
 . rw[if_pos af,if_pos (by omega)]
 . rw[if_neg af,if_neg (by omega)]
structure EA(l:List Path)(N:Nat)(free:Bool)(k:Nat)(W:Nat->Nat->Int):Prop where
 qX:∀p∈l,(free=true->p.free=true)->W p.src.toNat p.dst.toNat<=p.dI
 v7:∀i j m,i<N->j<N->m<k->W i j<=W i m+W m j
 qn:∀D:Nat->Int,(∀i,i<N->0<=D i/\D i<=eE)->(∀p∈l,(free=true->p.free=true)->D p.dst.toNat<=D p.src.toNat+p.dI)->∀i j,i<N->j<N->D j -D i<=W i j
 kl:∀i j,i<N->j<N->0<W i j/\W i j<=eE
theorem aAL{l:List Path}{N k:Nat}{free:Bool}{W:Nat->Nat->Int}(ey:∀p∈l,p.jR N)(h:EA l N free k W)(ao:k<N):EA l N free (k+1) (i2 W k N 0):=by
 have e:∀a b,a<N->i2 W k N 0 a b=min (W a b) (W a k+W k b):=fun a b bk=>by unfold i2;rw[if_pos (.inl bk)]
 refine⟨fun p ax aC=>?_,fun i j m hi ap hm=>?_,fun D en iQ i j hi ap=>?_,fun i j hi ap=>?_⟩
 . have:=h.qX p ax aC
   obtain⟨U,_⟩:=ey p ax;rw[e _ _ (by omega)];omega
 . have CR:=(h.kl k k ao ao).1
   have CX:m<N:=by omega
   rw[e _ _ hi,e _ _ hi,e _ _ CX];rcases jn.1 hm with hm|rfl
   . have t1:=h.v7 i j m hi ap hm
     have t2:=h.v7 i k m hi ao hm;have t3:=h.v7 k j m ao ap hm;have t4:=(h.kl k m ao CX).1;have t5:=(h.kl m k CX ao).1;omega
   . omega
 . have t1:=h.qn D en iQ i j hi ap
   have t2:=h.qn D en iQ i k hi ao;have t3:=h.qn D en iQ k j ao ap;rw[e _ _ hi];omega
 . have t1:=h.kl i j hi ap
   have t2:=h.kl i k hi ao;have t3:=h.kl k j ao ap;rw[e _ _ hi];omega
end Go.aQ.C
namespace Go.aQ.C
open Go.aQ
theorem aMn(N n:Nat)(aK:n<=64):d0 false 1 24 (.aX 0 n 0 n) (.aX (2*n+1+1) 0 0 1) (fd N n (fun _ _=>eE)++[a2.arr 1 (ie N fun _=>eE) (N -1) 0]++[a2.vec [.aX (2*n+1) (N -1) 0 N] 0])=
 some (.aX 0 (n+1) 0 (n+1),fd N (n+1) fun _ _=>eE):=aMm N n aK
theorem e0{α:Type}(M L:List α):(M++L)[M.length]? =L[0]? :=by
 rw[jX (by omega),mH]
theorem aAK(l:List Path)(N:Nat)(free:Bool):yJ l N free 0 (fun _ _=>eE):=
 ⟨fun i p hi=>absurd hi (fb _),fun D en _ i j hi ap=>by have:=en i hi;have:=en j ap;omega,fun i j _ _=>by simp only[eE];omega⟩
theorem VL(l:List Path)(c:c3)(N:Nat)(free:Bool)(db:N<=64)(ag:∀p∈l,p.jR N)(hlen:l.length<=maxLen):
 bQ av DH [.slice (l.map Path.row) c,.int .i64 N,.bool free] (fun v=>∃W,v=qi N W/\oK l N free W):=by
 have hm:maxLen=9223372036854775807:=by rfl
 refine bZ aDi (by simp[Gw]) ?_;have gm:fd N 0 (fun _ _=>eE)=[a2.vec [] 0]:=rfl;simp-implicitDefEqProofs (disch:=omega) only[go_sem,Gw,wF];refine gg N (fun i vs M=>vs=[.slice (l.map Path.row) c,.int .i64 N,.bool free,.aX 0 i 0 i,.int .i64 i]/\M=fd N i fun _ _=>eE) ⟨rfl,rfl⟩ ?_ ?_
 . rintro i vs M hi aw ⟨rfl,rfl⟩
   have a4:0<N:=by omega
   simp-implicitDefEqProofs (disch:=omega) only[go_sem,aw];refine gg N (fun k vs M=>vs=[.slice (l.map Path.row) c,.int .i64 N,.bool free,.aX 0 i 0 i,.int .i64 i,As i k,.int .i64 k]/\M=(fd N i fun _ _=>eE)++qt k) ⟨rfl,by simp[qt]⟩ ?_ ?_
   . rintro k vs M ao fw ⟨rfl,rfl⟩
     have bk:=aLe N i k (fun _ _=>eE) (by omega);simp-implicitDefEqProofs (disch:=omega) only[go_sem,fw,bk];exact c6 ao ⟨rfl,rfl⟩
   rintro vs M ⟨rfl,rfl⟩;have bk:=aMn N i (by omega);simp-implicitDefEqProofs (disch:=omega) only[go_sem,dg,aLg a4,aLd a4,wF,ig,bk];exact c6 hi ⟨rfl,rfl⟩
 rintro vs M ⟨rfl,rfl⟩;simp-implicitDefEqProofs (disch:=omega) only[go_sem,dg];refine ek l (fun i vs M=>∃W,yJ l N free i W/\vs=[.slice (l.map Path.row) c,.int .i64 N,.bool free,.aX 0 N 0 N,.int .i64 i]/\M=fd N N W) ⟨_,aAK l N free,rfl,rfl⟩ ?_ ?_
 . rintro i p vs M ax hi aw ⟨W,eu,rfl,rfl⟩
   have ey:=ag p (dO ax);obtain⟨⟨U,af⟩,⟨ay,be⟩,bv,b7⟩:=ey;have fj:=fun L=>b6 (Eh N N W) L;have bU:=fun L=>b6 (Ei (N:=N) W (show p.src.toNat<N by omega)) L;have b4:=NE (N:=N) (show p.src.toNat<N by omega);have cG:=sM (W p.src.toNat) (show p.dst.toNat<N by omega);have dl:=aMq (N:=N) (j:=p.dst.toNat) W (show p.src.toNat<N by omega);have eY:decide (p.src.toNat<N)=true:=decide_eq_true (by omega);have fQ:decide (p.dst.toNat<N)=true:=decide_eq_true (by omega);have jq:∀L:Mem,(fd N N W++L)[2*N+1]? =L[0]? :=fun L=>by
    have:=e0 (fd N N W) L;rwa [ig] at this
   have nZ:∀(L:Mem)(x:a2),(fd N N W++L).set (2*N+1) x=fd N N W++L.set 0 x:=fun L x=>by
    rw[List.set_append,if_neg (by rw[ig];omega),ig,mH]
   simp-implicitDefEqProofs (disch:=omega) only[go_sem,aw,ax,Path.row,ig,jq,nZ];refine cp (fun aW=>?_) (fun aW=>?_)
   . simp-implicitDefEqProofs (disch:=omega) only[go_sem,fj,bU,b4,cG,dl,eY,fQ,jq,Ao,sN,ig]
     refine dC hi (Oe _ (by simp[dt,aY,cS,V.under])) ⟨_,QP eu ax (fun _=>aW) ⟨⟨U,af⟩,⟨ay,be⟩,bv,b7⟩,rfl,?_⟩;exact kI (ig _ _ _) _
   simp-implicitDefEqProofs (disch:=omega) only[go_sem];refine cp (fun a9=>?_) (fun a9=>?_)
   . simp-implicitDefEqProofs (disch:=omega) only[go_sem,ig]
     refine dC hi (Oe _ (by simp[dt,aY,cS,V.under])) ⟨_,aAJ eu ax (fun e=>by rw[e a9] at aW;cases aW),rfl,?_⟩;exact kI (ig _ _ _) _
   simp-implicitDefEqProofs (disch:=omega) only[go_sem,fj,bU,b4,cG,dl,eY,fQ,jq,Ao,sN,ig];refine dC hi (Oe _ (by simp[dt,aY,cS,V.under])) ⟨_,QP eu ax (fun e=>by rw[a9] at e;cases e) ⟨⟨U,af⟩,⟨ay,be⟩,bv,b7⟩,rfl,?_⟩;exact kI (ig _ _ _) _
 rintro vs M ⟨Pe,LN,rfl,rfl⟩;have mU:EA l N free 0 Pe:=⟨fun p ax aC=>by
  obtain⟨i,hi⟩:=ij ax;exact LN.qX i p (bn.1 hi).1 hi aC,fun i j m _ _ hm=>absurd hm (fb _),LN.qn,LN.kl⟩;simp-implicitDefEqProofs (disch:=omega) only[go_sem,dg];refine gg N (fun k vs M=>∃W,EA l N free k W/\vs=[.int .i64 N,.aX 0 N 0 N,.int .i64 k]/\M=fd N N W) ⟨Pe,mU,rfl,rfl⟩ ?_ ?_;rotate_left
 . rintro vs M ⟨W,eu,rfl,rfl⟩
   simp-implicitDefEqProofs (disch:=omega) only[go_sem,dg];show lL (fu (fd N N W) 0 20 (.aX 0 N 0 N)) _;rw[aMo];exact⟨by simp[qi,V.under,cL],⟨W,rfl,eu.qX,fun i j m hi ap hm=>eu.v7 i j m hi ap hm,eu.qn,eu.kl⟩,by simp,rfl⟩
 rintro k vs M ao fw ⟨W,eu,rfl,rfl⟩;simp-implicitDefEqProofs (disch:=omega) only[go_sem,fw];refine gg N (fun i vs M=>vs=[.int .i64 N,.aX 0 N 0 N,.int .i64 k,.int .i64 i]/\M=fd N N (i2 W k i 0)) ⟨rfl,by rw[aJ6]⟩ ?_ ?_;rotate_left
 . rintro vs M ⟨rfl,rfl⟩
   simp-implicitDefEqProofs (disch:=omega) only[go_sem,dg];exact c6 ao ⟨_,aAL ag eu ao,rfl,rfl⟩
 rintro i vs M hi bf ⟨rfl,rfl⟩;simp-implicitDefEqProofs (disch:=omega) only[go_sem,bf];refine gg N (fun j vs M=>vs=[.int .i64 N,.aX 0 N 0 N,.int .i64 k,.int .i64 i,.int .i64 j]/\M=fd N N (i2 W k i j)) ⟨rfl,rfl⟩ ?_ ?_;rotate_left
 . rintro vs M ⟨rfl,rfl⟩
   simp-implicitDefEqProofs (disch:=omega) only[go_sem,dg];refine c6 hi ⟨rfl,aMj fun a b bk aj=>aJ3 W k i a b bk aj⟩
 rintro j vs M ap mn ⟨rfl,rfl⟩;have fj:=Eh N N (i2 W k i j);have bU:=Ei (N:=N) (i2 W k i j) hi;have Kl:=Ei (N:=N) (i2 W k i j) ao;have b4:=NE (N:=N) hi;have aah:=NE (N:=N) ao;have cG:=sM (i2 W k i j i) ap;have aai:=sM (i2 W k i j i) ao;have aaj:=sM (i2 W k i j k) ap;have dl:=aMp (N:=N) (j:=j) (i2 W k i j) hi;have eY:decide (i<N)=true:=decide_eq_true hi;have fQ:decide (j<N)=true:=decide_eq_true ap;have jq:decide (k<N)=true:=decide_eq_true ao;have a6:=aJ2 eu.kl ao i j hi;have ba:=aJ5 eu.kl ao i j ap;have e3:=aJ1 W k i j;have c4:=eu.kl i k hi ao;have dF:=eu.kl k j ao ap;simp only[eE] at c4 dF;simp-implicitDefEqProofs (disch:=omega) only[go_sem,mn,fj,bU,Kl,b4,aah,cG,aai,aaj,dl,eY,fQ,jq,Ao,sN,a6,ba,e3];refine c6 ap ⟨rfl,?_⟩;rw[aJ4]
end Go.aQ.C
namespace Go.aQ.C
open Go.aQ
def kS(W F:Nat->Nat->Int)(i k:Nat):List Path:=
 if i=k∨14400<W i k then[] else⟨i,k,W i k,decide (F i k=W i k)⟩::(if W i k<F i k/\F i k<=14400 then[⟨i,k,F i k,true⟩] else[])
def k1(W F:Nat->Nat->Int)(i n:Nat):List Path:=(c1 n).flatMap (kS W F i)
def gl(W F:Nat->Nat->Int)(N n:Nat):List Path:=(c1 n).flatMap fun i=>k1 W F i N
theorem azY(W F:Nat->Nat->Int)(i k:Nat):(kS W F i k).length<=2:=by
 unfold kS;split
 . simp
 . split<;>simp
theorem Lm{α:Type}{f:Nat->List α}{b:Nat}(h:∀i,(f i).length<=b):∀n,((c1 n).flatMap f).length<=n*b
 |0=>by simp
 |n+1=>by
  have:=Lm h n;have:=h n;rw[List.range_succ,List.flatMap_append,dT];simp only[List.flatMap_cons,List.flatMap_nil,fU,Nat.succ_mul];omega
theorem pp(W F:Nat->Nat->Int)(i n:Nat):k1 W F i (n+1)=k1 W F i n++kS W F i n:=by simp[k1,List.range_succ]
theorem KR(W F:Nat->Nat->Int)(N n:Nat):gl W F N (n+1)=gl W F N n++k1 W F n N:=by simp[gl,List.range_succ]
theorem I8(W F:Nat->Nat->Int)(i n:Nat):(k1 W F i n).length<=n*2:=Lm (azY W F i) n
theorem Qy(W F:Nat->Nat->Int)(N n:Nat)(db:N<=64):(gl W F N n).length<=n*128:=
 Lm (fun i=>jH (I8 W F i N) (by omega)) n
theorem UW{N i:Nat}(W:Nat->Nat->Int)(h:i<N):((c1 N).map fun i=>[V.slice (ie N (W i)) .cv])[i]? =some [.slice (ie N (W i)) .cv]:=by simp[h]
def vR(l:List Path)(ver:Nat):V:=match l with|[]=>.slice [] .full|_::_=>.aX 0 ver 0 l.length
def ue(l:List Path)(ver:Nat):Mem:=match l with|[]=>[]|_::_=>[.arr 4 (l.map Path.row) ver 0]
theorem Vj(l:List Path)(ver:Nat)(p:Path)(ag:l.length<=100000):∃k8,d0 false 4 32 (vR l ver) (.slice [[.int .i64 p.src,.int .i64 p.dst,.int .i64 p.dI,.bool p.free]] .full) (ue l ver)=some (vR (l++[p]) k8,ue (l++[p]) k8):=by
 cases l with
 |nil=>exact⟨0,by simp[vR,ue,d0,eJ,g3,fq,Path.row]⟩
 |cons q l=>
  refine⟨ver+1,?_⟩;have af:decide ((l.length+1+1)*64<=2^48)=true:=decide_eq_true (by simp only[dz] at ag;omega);simp only[vR,ue,d0,eJ,fq,dz,gZ,ev,beq_self_eq_true,cond_true,g3,ja,eD,eR,Nat.reduceMul,af,List.set_cons_zero,List.cons_append,dT,hQ,List.map_append,lb,Path.row]
theorem aKH(l:List Path)(c:c3)(N:Nat)(db:N<=64)(ag:∀p∈l,p.jR N)(hlen:l.length<=maxLen):
 bQ av IM [.slice (l.map Path.row) c,.int .i64 N] (fun v=>∃W F c0,v=.slice ((gl W F N N).map Path.row) c0/\oK l N false W/\oK l N true F):=by
 have hm:maxLen=9223372036854775807:=by rfl
 refine bZ aDg (by simp[Gu]) ?_;simp-implicitDefEqProofs (disch:=omega) only[go_sem,Gu];refine fI (VL l c N false db ag hlen) ?_;rintro v ⟨W,rfl,eu⟩;simp-implicitDefEqProofs (disch:=omega) only[go_sem];refine fI (VL l c N true db ag hlen) ?_;rintro v ⟨G,rfl,hf⟩;simp-implicitDefEqProofs (disch:=omega) only[go_sem];refine gg N (fun i vs M=>∃ver,vs=[.int .i64 N,qi N W,qi N G,vR (gl W G N i) ver,.int .i64 i]/\M=ue (gl W G N i) ver) ⟨0,rfl,rfl⟩ ?_ ?_;rotate_left
 . rintro vs M ⟨ver,rfl,rfl⟩
   simp-implicitDefEqProofs (disch:=omega) only[go_sem,dg];rw[aAS];show lL (fu (ue (gl W G N N) ver) 0 20 (vR (gl W G N N) ver)) _;have mS:∃c0,fu (ue (gl W G N N) ver) 0 20 (vR (gl W G N N) ver)=some (.slice ((gl W G N N).map Path.row) c0):=by
    cases gl W G N N with
    |nil=>exact⟨.full,rfl⟩
    |cons q r=>
     refine⟨.cv,?_⟩;have:=zf (M:=ue (q::r) ver) (base:=0) (n:=19) (id:=0) (ver:=ver) (start:=0) (len:=(q::r).length) (rows:=(q::r).map Path.row) (sz:=4) (fz:=0) rfl rfl (by simp);rw[l9,g1 (by simp)] at this;exact this
   obtain⟨c0,mS⟩:=mS;rw[mS];exact⟨by simp[V.under,cL],⟨W,G,c0,rfl,eu,hf⟩,by simp,rfl⟩
 rintro i vs M hi bf ⟨ver,rfl,rfl⟩;have de:=Qy W G N i db;simp-implicitDefEqProofs (disch:=omega) only[go_sem,bf];refine gg N (fun k vs M=>∃ver,vs=[.int .i64 N,qi N W,qi N G,vR (gl W G N i++k1 W G i k) ver,.int .i64 i,.int .i64 k]/\M=ue (gl W G N i++k1 W G i k) ver) ⟨ver,by simp[k1,dt,aY],by simp[k1]⟩ ?_ ?_;rotate_left
 . rintro vs M ⟨ver,rfl,rfl⟩
   simp-implicitDefEqProofs (disch:=omega) only[go_sem,dg];refine c6 hi ⟨ver,?_,?_⟩
   . rw[KR];rfl
   . rw[KR]
 rintro k vs M ao fw ⟨ver,rfl,rfl⟩;have o9:=I8 W G i k;have bU:=UW (N:=N) W hi;have b4:=UW (N:=N) G hi;have cG:=sM (W i) ao;have dl:=sM (G i) ao;have aH_:(gl W G N i++k1 W G i k).length<=100000:=by rw[dT];omega
 simp-implicitDefEqProofs (disch:=omega) only[go_sem,fw,qi];refine a5 (fun aW=>?_) (fun aW=>?_)
 . have e:kS W G i k=[]:=by rw[kS,if_pos (.inl (by omega))]
   simp-implicitDefEqProofs (disch:=omega) only[go_sem];refine c6 ao ⟨ver,?_,?_⟩
   . rw[pp,e,fU];rfl
   . rw[pp,e,fU]
 have iU:¬i=k:=by omega
 simp-implicitDefEqProofs (disch:=omega) only[go_sem,bU,cG,qi];refine a5 (fun a9=>?_) (fun a9=>?_)
 . have e:kS W G i k=[]:=by rw[kS,if_pos (.inr (by omega))]
   simp-implicitDefEqProofs (disch:=omega) only[go_sem];refine c6 ao ⟨ver,?_,?_⟩
   . rw[pp,e,fU];rfl
   . rw[pp,e,fU]
 have a6:∀r,(if W i k<G i k/\G i k<=14400 then[(⟨i,k,G i k,true⟩:Path)] else[])=r->kS W G i k=⟨i,k,W i k,decide (G i k=W i k)⟩::r:=fun r al=>by
  rw[kS,if_neg (by omega),al]
 obtain⟨Ot,U⟩:=Vj (gl W G N i++k1 W G i k) ver ⟨i,k,W i k,decide (G i k=W i k)⟩ aH_;simp only at U;simp-implicitDefEqProofs (disch:=omega) only[go_sem,bU,b4,cG,dl,qi,U];refine a5 (fun bN=>?_) (fun bN=>?_);rotate_left
 . have e:=a6 [] (by rw[if_neg (by omega)])
   simp-implicitDefEqProofs (disch:=omega) only[go_sem];refine c6 ao ⟨Ot,?_,?_⟩
   . rw[pp,e,<-eB];rfl
   . rw[pp,e,<-eB]
 simp-implicitDefEqProofs (disch:=omega) only[go_sem,b4,dl,qi];refine a5 (fun c5=>?_) (fun c5=>?_);rotate_left
 . have e:=a6 [] (by rw[if_neg (by omega)])
   simp-implicitDefEqProofs (disch:=omega) only[go_sem];refine c6 ao ⟨Ot,?_,?_⟩
   . rw[pp,e,<-eB];rfl
   . rw[pp,e,<-eB]
 have e:=a6 [⟨i,k,G i k,true⟩] (by rw[if_pos ⟨by omega,by omega⟩]);obtain⟨iH,af⟩:=Vj (gl W G N i++k1 W G i k++[⟨i,k,W i k,decide (G i k=W i k)⟩]) Ot ⟨i,k,G i k,true⟩ (by rw[dT,dT];simp;omega);simp only at af;simp-implicitDefEqProofs (disch:=omega) only[go_sem,b4,dl,qi,af];refine c6 ao ⟨iH,?_,?_⟩
 . rw[pp,e];simp[dt,aY]
 . rw[pp,e];simp
end Go.aQ.C
namespace Go.aQ.C
open Go.aQ
def Kg(l:List Path)(N:Nat)(i:Nat)(p:Path):Prop:=p.jR N/\p.src≠p.dst/\∀(k:Nat)(o:Path),k<i->l[k]? =some o->¬(o.src=p.src/\o.dst=p.dst/\o.free=p.free)
def qL(l:List Path)(N:Nat):Prop:=∀(i:Nat)(p:Path),l[i]? =some p->Kg l N i p
def uz(l:List Path)(N:Nat):Prop:=∃W F,oK l N false W/\oK l N true F/\l=gl W F N N
theorem aLf{p q:Path}(h:(decide (p.src=q.src)&&(decide (p.dst=q.dst)&&(decide (p.dI=q.dI)&&(decide (p.free=q.free)&&true))))=true):p=q:=by
 simp only[b_,decide_eq_true_eq,and_true] at h;cases p;cases q;simp only[Path.mk.injEq];exact h
theorem aKN(n:Net)(aK:n.wf)(db:n.stops.length<=64):bQ av IS [.agg n.row] (fW (qL n.paths n.stops.length/\uz n.paths n.stops.length)):=by
 have hm:maxLen=9223372036854775807:=by rfl
 have lV:=aK.paths.2;refine bZ aDp (by simp[GD]) ?_;simp-implicitDefEqProofs (disch:=omega) only[go_sem,GD];refine ek n.paths (fun i vs M=>vs=[.ptr 0 0,.int .i64 i]/\M=[.box n.row]/\∀(j:Nat)(p:Path),j<i->n.paths[j]? =some p->Kg n.paths n.stops.length j p) ⟨rfl,rfl,fun j p ap=>absurd ap (fb _)⟩ ?_ ?_
 . rintro i p vs M ax hi aw ⟨rfl,rfl,H⟩
   simp-implicitDefEqProofs (disch:=omega) only[go_sem,aw,ax,Net.row,Path.row];first|refine b0 (ge _ _ _) ?_|refine bV (ge _ _ _) ?_
   simp-implicitDefEqProofs (disch:=omega) only[go_sem];refine cp (fun aW=>?_) (fun aW=>?_);rotate_left
   . simp-implicitDefEqProofs (disch:=omega) only[go_sem]
     exact fW.err _ _ (by omega)
   rw[within_iff] at aW;simp-implicitDefEqProofs (disch:=omega) only[go_sem];first|refine b0 (ge _ _ _) ?_|refine bV (ge _ _ _) ?_
   simp-implicitDefEqProofs (disch:=omega) only[go_sem];refine cp (fun a9=>?_) (fun a9=>?_);rotate_left
   . simp-implicitDefEqProofs (disch:=omega) only[go_sem]
     exact fW.err _ _ (by omega)
   rw[within_iff] at a9;simp-implicitDefEqProofs (disch:=omega) only[go_sem];refine a5 (fun bN=>?_) (fun bN=>?_)
   . simp-implicitDefEqProofs (disch:=omega) only[go_sem]
     exact fW.err _ _ (by omega)
   simp-implicitDefEqProofs (disch:=omega) only[go_sem];first|refine b0 (ge _ _ _) ?_|refine bV (ge _ _ _) ?_
   simp-implicitDefEqProofs (disch:=omega) only[go_sem];refine cp (fun c5=>?_) (fun c5=>?_);rotate_left
   . simp-implicitDefEqProofs (disch:=omega) only[go_sem]
     exact fW.err _ _ (by omega)
   rw[within_iff] at c5;simp-implicitDefEqProofs (disch:=omega) only[go_sem];refine gg i (fun k vs M=>vs=[.ptr 0 0,.int .i64 i,.ptr 1 0,.int .i64 k]/\M=[.box n.row,.box p.row]/\∀(j:Nat)(o:Path),j<k->n.paths[j]? =some o->¬(o.src=p.src/\o.dst=p.dst/\o.free=p.free)) ⟨rfl,rfl,fun j o ap=>absurd ap (fb _)⟩ ?_ ?_
   . rintro k vs M ao fw ⟨rfl,rfl,h2⟩
     obtain⟨o,az⟩:∃o,n.paths[k]? =some o:=⟨n.paths[k],by simp⟩;have last:¬(o.src=p.src/\o.dst=p.dst/\o.free=p.free)->∀(j:Nat)(o:Path),j<k+1->n.paths[j]? =some o->¬(o.src=p.src/\o.dst=p.dst/\o.free=p.free):=fun cr j x ap ab=>by
      rcases jn.1 ap with h|h
      . exact h2 j x h ab
      . subst h;rw[az] at ab;cases ab;exact cr
     simp-implicitDefEqProofs (disch:=omega) only[go_sem,fw,az,Net.row,Path.row];refine a5 (fun bU=>?_) (fun bU=>?_);rotate_left
     . simp-implicitDefEqProofs (disch:=omega) only[go_sem]
       exact dC ao rfl ⟨rfl,rfl,last fun e=>bU e.1⟩
     simp-implicitDefEqProofs (disch:=omega) only[go_sem];refine a5 (fun b4=>?_) (fun b4=>?_);rotate_left
     . simp-implicitDefEqProofs (disch:=omega) only[go_sem]
       exact dC ao rfl ⟨rfl,rfl,last fun e=>b4 e.2.1⟩
     simp-implicitDefEqProofs (disch:=omega) only[go_sem];refine a5 (fun cG=>?_) (fun cG=>?_);rotate_left
     . simp-implicitDefEqProofs (disch:=omega) only[go_sem]
       exact dC ao rfl ⟨rfl,rfl,last fun e=>cG e.2.2⟩
     simp-implicitDefEqProofs (disch:=omega) only[go_sem];exact fW.err _ _ (by omega)
   rintro vs M ⟨rfl,rfl,h2⟩;simp-implicitDefEqProofs (disch:=omega) only[go_sem,dg];refine dC hi rfl ⟨rfl,rfl,fun j o ap az=>?_⟩;rcases jn.1 ap with h|h
   . exact H j o h az
   . subst h;rw[ax] at az;cases az
     exact⟨⟨⟨by omega,by omega⟩,⟨by omega,by omega⟩,c5⟩,bN,h2⟩
 rintro vs M ⟨rfl,rfl,H⟩;have T5:qL n.paths n.stops.length:=fun i p ax=>H i p (bn.1 ax).1 ax;have ey:∀p∈n.paths,p.jR n.stops.length:=fun p ax=>by
  obtain⟨i,hi⟩:=ij ax;exact(T5 i p hi).1
 simp-implicitDefEqProofs (disch:=omega) only[go_sem,dg,Net.row];refine fI (aKH n.paths n.ql n.stops.length db ey lV) ?_;rintro v ⟨W,G,c0,rfl,eu,hf⟩;simp-implicitDefEqProofs (disch:=omega) only[go_sem];refine a5 (fun er=>?_) (fun er=>?_);rotate_left
 . simp-implicitDefEqProofs (disch:=omega) only[go_sem]
   exact fW.err _ _ (by omega)
 have hlen:(gl W G n.stops.length n.stops.length).length=n.paths.length:=by omega
 simp-implicitDefEqProofs (disch:=omega) only[go_sem];refine ek (gl W G n.stops.length n.stops.length) (fun i vs M=>vs=[.ptr 0 0,.slice ((gl W G n.stops.length n.stops.length).map Path.row) c0,.int .i64 i]/\M=[.box n.row]/\∀j,j<i->(gl W G n.stops.length n.stops.length)[j]? =n.paths[j]?) ⟨rfl,rfl,fun j ap=>absurd ap (fb _)⟩ ?_ ?_;rotate_left
 . rintro vs M ⟨rfl,rfl,lK⟩
   simp-implicitDefEqProofs (disch:=omega) only[go_sem,dg];refine fW.ok _ ⟨T5,W,G,eu,hf,?_⟩;refine oF fun j=>?_;by_cases ap:j<(gl W G n.stops.length n.stops.length).length
   . exact(lK j ap).symm
   . rw[lJ (by omega),lJ (by omega)]
 rintro i q vs M aG hi aw ⟨rfl,rfl,lK⟩;obtain⟨p,ax⟩:∃p,n.paths[i]? =some p:=⟨n.paths[i]'(by omega),by simp⟩;simp-implicitDefEqProofs (disch:=omega) only[go_sem,aw,aG,ax,Net.row,Path.row];refine cp (fun eT=>?_) (fun eT=>?_)
 . have e:=aLf (p:=q) (q:=p) (by simpa using eT)
   simp-implicitDefEqProofs (disch:=omega) only[go_sem];refine dC hi rfl ⟨rfl,rfl,fun j ap=>?_⟩;rcases jn.1 ap with h|h
   . exact lK j h
   . subst h;rw[aG,ax,e]
 simp-implicitDefEqProofs (disch:=omega) only[go_sem];exact fW.err _ _ (by omega)
theorem aKI(f:bd)(aC:f.wf):bQ av IN [.agg f.row] (fW (j6 f=(0,0))):=by
 have hm:maxLen=9223372036854775807:=by rfl
 have gS:=aC.2.1;refine bZ aDh (by simp[Gv]) ?_;simp-implicitDefEqProofs (disch:=omega) only[go_sem,Gv,bd.row];first|refine b0 (ge _ _ _) ?_|refine bV (ge _ _ _) ?_
 simp-implicitDefEqProofs (disch:=omega) only[go_sem];refine cp (fun U=>?_) (fun U=>?_);rotate_left
 . simp-implicitDefEqProofs (disch:=omega) only[go_sem]
   exact fW.err _ _ (by omega)
 simp-implicitDefEqProofs (disch:=omega) only[go_sem];first|refine b0 (ge _ _ _) ?_|refine bV (ge _ _ _) ?_
 simp-implicitDefEqProofs (disch:=omega) only[go_sem];refine cp (fun af=>?_) (fun af=>?_);rotate_left
 . simp-implicitDefEqProofs (disch:=omega) only[go_sem]
   exact fW.err _ _ (by omega)
 simp-implicitDefEqProofs (disch:=omega) only[go_sem];first|refine b0 (ge _ _ _) ?_|refine bV (ge _ _ _) ?_
 simp-implicitDefEqProofs (disch:=omega) only[go_sem];refine cp (fun ay=>?_) (fun ay=>?_);rotate_left
 . simp-implicitDefEqProofs (disch:=omega) only[go_sem]
   exact fW.err _ _ (by omega)
 simp-implicitDefEqProofs (disch:=omega) only[go_sem];refine a5 (fun be=>?_) (fun be=>?_)
 . simp-implicitDefEqProofs (disch:=omega) only[go_sem]
   exact fW.err _ _ (by omega)
 have Ly:¬16<f.cH.length:=by omega
 have fk:j6 f=sc (pt f.cH) f.cH.length:=by simp[j6,U,af,ay,Ly]
 simp-implicitDefEqProofs (disch:=omega) only[go_sem];refine ek f.cH (fun i vs M=>(∀k,k<i->pt f.cH k=0)/\vs=[.ptr 0 0,.int .i64 i]/\M=[.box f.row]) ⟨fun k ao=>absurd ao (fb k),rfl,rfl⟩ ?_ ?_;rotate_left
 . rintro vs M ⟨d9,rfl,rfl⟩
   simp-implicitDefEqProofs (disch:=omega) only[go_sem,dg,bd.row];exact fW.ok _ (by rw[fk,Ro d9])
 rintro i p vs M ax hi aw ⟨d9,rfl,rfl⟩;have sm:pt f.cH i=if k5 p.id=false then 12 else if p.id∈(f.cH.take i).map dk.id then 6 else if p.right=false then 2 else 0:=by simp only[pt,ax]
 simp-implicitDefEqProofs (disch:=omega) only[go_sem,aw,ax,dk.row,bd.row];first|refine b0 (uH _ (aC.1 p (dO ax)).1) ?_|refine bV (uH _ (aC.1 p (dO ax)).1) ?_
 simp-implicitDefEqProofs (disch:=omega) only[go_sem];refine cp (fun aW=>?_) (fun aW=>?_);rotate_left
 . simp-implicitDefEqProofs (disch:=omega) only[go_sem]
   exact fW.err _ _ (by omega)
 simp-implicitDefEqProofs (disch:=omega) only[go_sem];refine gg i (fun k vs M=>vs=[.ptr 0 0,.int .i64 i,.ptr 1 0,.int .i64 k]/\M=[.box f.row,.box p.row]/\∀(j:Nat)(t:dk),j<k->f.cH[j]? =some t->t.id≠p.id) ⟨rfl,rfl,fun j s ap=>absurd ap (fb _)⟩ ?_ ?_
 . rintro k vs M ao fw ⟨rfl,rfl,h2⟩
   obtain⟨t,aT⟩:∃t,f.cH[k]? =some t:=⟨f.cH[k],by simp⟩;simp-implicitDefEqProofs (disch:=omega) only[go_sem,fw,aT,dk.row,bd.row];refine a5 (fun he=>?_) (fun he=>?_)
   . simp-implicitDefEqProofs (disch:=omega) only[go_sem]
     exact fW.err _ _ (by omega)
   . simp-implicitDefEqProofs (disch:=omega) only[go_sem]
     refine c6 ao ⟨rfl,rfl,fun j u ap hu=>?_⟩;rcases jn.1 ap with h|h
     . exact h2 j u h hu
     . subst h;rw[aT] at hu;cases hu;exact he
 rintro vs M ⟨rfl,rfl,h2⟩;have a9:¬p.id∈(f.cH.take i).map dk.id:=fun CZ=>by
  obtain⟨t,aT,he⟩:=ld.1 CZ;obtain⟨k,ao,zz⟩:=Ad aT;exact h2 k t ao zz he
 simp-implicitDefEqProofs (disch:=omega) only[go_sem,dg,dk.row,bd.row];first|refine b0 (ge _ _ _) ?_|refine bV (ge _ _ _) ?_
 simp-implicitDefEqProofs (disch:=omega) only[go_sem];refine cp (fun bH=>?_) (fun bH=>?_);rotate_left
 . simp-implicitDefEqProofs (disch:=omega) only[go_sem]
   exact fW.err _ _ (by omega)
 simp-implicitDefEqProofs (disch:=omega) only[go_sem];first|refine b0 (ge _ _ _) ?_|refine bV (ge _ _ _) ?_
 simp-implicitDefEqProofs (disch:=omega) only[go_sem];refine cp (fun b8=>?_) (fun b8=>?_);rotate_left
 . simp-implicitDefEqProofs (disch:=omega) only[go_sem]
   exact fW.err _ _ (by omega)
 simp-implicitDefEqProofs (disch:=omega) only[go_sem];first|refine b0 (ge _ _ _) ?_|refine bV (ge _ _ _) ?_
 simp-implicitDefEqProofs (disch:=omega) only[go_sem];refine cp (fun dS=>?_) (fun dS=>?_);rotate_left
 . simp-implicitDefEqProofs (disch:=omega) only[go_sem]
   exact fW.err _ _ (by omega)
 simp-implicitDefEqProofs (disch:=omega) only[go_sem];first|refine b0 (ge _ _ _) ?_|refine bV (ge _ _ _) ?_
 simp-implicitDefEqProofs (disch:=omega) only[go_sem];refine cp (fun fr=>?_) (fun fr=>?_);rotate_left
 . simp-implicitDefEqProofs (disch:=omega) only[go_sem]
   exact fW.err _ _ (by omega)
 simp-implicitDefEqProofs (disch:=omega) only[go_sem];first|refine b0 (ge _ _ _) ?_|refine bV (ge _ _ _) ?_
 simp-implicitDefEqProofs (disch:=omega) only[go_sem];refine cp (fun fs=>?_) (fun fs=>?_);rotate_left
 . simp-implicitDefEqProofs (disch:=omega) only[go_sem]
   exact fW.err _ _ (by omega)
 have al:p.right=true:=by simp[dk.right,bH,b8,dS,fr,fs]
 simp-implicitDefEqProofs (disch:=omega) only[go_sem];refine dC hi rfl ⟨fun k ao=>?_,rfl,rfl⟩;rcases jn.1 ao with h|h
 . exact d9 k h
 . subst h
   rw[sm,if_neg (by simp[aW]),if_neg a9,if_neg (by simp[al])]
end Go.aQ.C
namespace Go.aQ.C
open Go.aQ
structure EJ(n:Net):Prop where
 stops:EN n.stops
 fK:AS n.fK
 runs:yR n
 b9:yM n
 sound:qL n.paths n.stops.length
 closed:uz n.paths n.stops.length
 cY:j6 n.cY=(0,0)
structure Query where
 src:Int
 dst:Int
 time:Int
 back:Bool
 b1:Int
 walk:Int
 free:Bool
 wB:Bool
 eP:Int
 A1:Bool
def Query.row(q:Query):List V:=[.int .i64 q.src,.int .i64 q.dst,.int .i64 q.time,.bool q.back,.int .i64 q.b1,.int .i64 q.walk,.bool q.free,.bool q.wB,.int .i64 q.eP,.bool q.A1]
structure qK(N:Nat)(q:Query):Prop where
 src:0<=q.src/\q.src<N
 dst:0<=q.dst/\q.dst<N
 time:0<=q.time/\q.time<=3155932800
 b1:0<=q.b1/\q.b1<=8
 walk:0<=q.walk/\q.walk<=86400
 eP:0<=q.eP/\q.eP<=255
 one:¬(q.A1=true/\q.back=true)
def qD(G:Prop)(v:V):Prop:=∃p i e:Int,v=.tuple [.int .i64 p,.int .i64 i,.int .i64 e]/\(e=0->G)
theorem qD.err{G:Prop}(p i e:Int)(he:e≠0):qD G (.tuple [.int .i64 p,.int .i64 i,.int .i64 e]):=⟨p,i,e,rfl,fun h=>absurd h he⟩
theorem aKG(n:Net)(aK:n.wf):bQ av IL [.agg n.row] (qD (EJ n)):=by
 have hm:maxLen=9223372036854775807:=by rfl
 have n8:=aK.runs.2;have o9:=aK.b9.2;refine bZ aDf (by simp[Gt]) ?_;simp-implicitDefEqProofs (disch:=omega) only[go_sem,Gt,Net.row];refine fI (aKQ n.stops n.mB aK.stops.1 aK.stops.2) ?_;rintro v ⟨od,a6,rfl,U⟩;simp-implicitDefEqProofs (disch:=omega) only[go_sem];refine a5 (fun aW=>?_) (fun aW=>?_);rotate_left
 . simp-implicitDefEqProofs (disch:=omega) only[go_sem]
   exact qD.err _ _ _ aW
 have U:=U aW;simp-implicitDefEqProofs (disch:=omega) only[go_sem];refine fI (aKO n.fK n.rc aK.fK.1 aK.fK.2) ?_;rintro v ⟨aHp,ba,rfl,af⟩;simp-implicitDefEqProofs (disch:=omega) only[go_sem];refine a5 (fun a9=>?_) (fun a9=>?_);rotate_left
 . simp-implicitDefEqProofs (disch:=omega) only[go_sem]
   exact qD.err _ _ _ a9
 have af:=af a9;simp-implicitDefEqProofs (disch:=omega) only[go_sem];refine a5 (fun bN=>?_) (fun bN=>?_)
 . simp-implicitDefEqProofs (disch:=omega) only[go_sem]
   exact qD.err _ _ _ (by omega)
 simp-implicitDefEqProofs (disch:=omega) only[go_sem];refine ek n.runs (fun i vs M=>vs=[.ptr 0 0,.int .i64 i]/\M=[.box n.row]/\∀j,j<i->Kk n j) ⟨rfl,rfl,fun j ap=>absurd ap (fb _)⟩ ?_ ?_
 . rintro i r vs M al hi aw ⟨rfl,rfl,H⟩
   simp-implicitDefEqProofs (disch:=omega) only[go_sem,aw,Net.row];refine fI (aKP n i r aK al) ?_;rintro v ⟨e,rfl,he⟩;simp-implicitDefEqProofs (disch:=omega) only[go_sem];refine a5 (fun g=>?_) (fun g=>?_)
   . simp-implicitDefEqProofs (disch:=omega) only[go_sem]
     refine c6 hi ⟨rfl,rfl,fun j ap=>?_⟩;rcases jn.1 ap with h|h
     . exact H j h
     . subst h;exact he g
   . simp-implicitDefEqProofs (disch:=omega) only[go_sem]
     exact qD.err _ _ _ g
 rintro vs M ⟨rfl,rfl,Ye⟩;have aGN:yR n:=⟨by omega,fun i r al=>Ye i (bn.1 al).1 r al⟩;simp-implicitDefEqProofs (disch:=omega) only[go_sem,dg,Net.row];refine a5 (fun c5=>?_) (fun c5=>?_)
 . simp-implicitDefEqProofs (disch:=omega) only[go_sem]
   exact qD.err _ _ _ (by omega)
 simp-implicitDefEqProofs (disch:=omega) only[go_sem];refine ek n.b9 (fun i vs M=>vs=[.ptr 0 0,.int .i64 i]/\M=[.box n.row]/\∀j,j<i->uF n j) ⟨rfl,rfl,fun j ap=>absurd ap (fb _)⟩ ?_ ?_
 . rintro i r vs M al hi aw ⟨rfl,rfl,H⟩
   simp-implicitDefEqProofs (disch:=omega) only[go_sem,aw,Net.row];refine fI (aKM n i r aK al H) ?_;rintro v ⟨e,rfl,he⟩;simp-implicitDefEqProofs (disch:=omega) only[go_sem];refine a5 (fun g=>?_) (fun g=>?_)
   . simp-implicitDefEqProofs (disch:=omega) only[go_sem]
     refine c6 hi ⟨rfl,rfl,fun j ap=>?_⟩;rcases jn.1 ap with h|h
     . exact H j h
     . subst h;exact he g
   . simp-implicitDefEqProofs (disch:=omega) only[go_sem]
     exact qD.err _ _ _ g
 rintro vs M ⟨rfl,rfl,X_⟩;have aF6:yM n:=⟨by omega,fun i r al=>X_ i (bn.1 al).1 r al⟩;simp-implicitDefEqProofs (disch:=omega) only[go_sem,dg,Net.row];refine fI (aKN n aK U.1) ?_;rintro v ⟨aOH,mP,rfl,bv⟩;simp-implicitDefEqProofs (disch:=omega) only[go_sem];refine a5 (fun er=>?_) (fun er=>?_);rotate_left
 . simp-implicitDefEqProofs (disch:=omega) only[go_sem]
   exact qD.err _ _ _ er
 simp-implicitDefEqProofs (disch:=omega) only[go_sem];refine fI (aKI n.cY aK.cY) ?_;rintro v ⟨aOI,y4,rfl,b7⟩;simp-implicitDefEqProofs (disch:=omega) only[go_sem];refine a5 (fun eT=>?_) (fun eT=>?_);rotate_left
 . simp-implicitDefEqProofs (disch:=omega) only[go_sem]
   exact qD.err _ _ _ eT
 simp-implicitDefEqProofs (disch:=omega) only[go_sem];exact⟨_,_,_,rfl,fun _=>⟨U,af,aGN,aF6,(bv er).1,(bv er).2,b7 eT⟩⟩
def wq(G:Prop)(v:V):Prop:=∃b:Bool,v=.bool b/\(b=true->G)
theorem VM(n:Net)(aK:n.wf):bQ av DI [.agg n.row] (wq (EJ n)):=by
 refine bZ aDl (by simp[Gy]) ?_;simp-implicitDefEqProofs (disch:=omega) only[go_sem,Gy,Net.row];refine fI (aKG n aK) ?_;rintro v ⟨p,i,e,rfl,h⟩;simp-implicitDefEqProofs (disch:=omega) only[go_sem];exact⟨_,rfl,fun g=>h (by simpa using g)⟩
structure g2(n:Net):Prop where
 ok:EJ n
 stops:n.stops.length<=5
 runs:n.runs.length<=7
 b9:n.b9.length<=30
 paths:n.paths.length<=60
 calls:∀r∈n.runs,r.calls.length<=6
theorem aKJ(n:Net)(aK:n.wf):bQ av IP [.agg n.row] (wq (g2 n)):=by
 have hm:maxLen=9223372036854775807:=by rfl
 have n8:=aK.runs.2;have nL:wq (g2 n) (.bool false):=⟨false,rfl,fun h=>by cases h⟩;refine bZ aDj (by simp[Gx]) ?_;simp-implicitDefEqProofs (disch:=omega) only[go_sem,Gx,Net.row];refine a5 (fun aW=>?_) (fun aW=>?_)
 . simp-implicitDefEqProofs (disch:=omega) only[go_sem]
   exact nL
 simp-implicitDefEqProofs (disch:=omega) only[go_sem];refine a5 (fun a9=>?_) (fun a9=>?_)
 . simp-implicitDefEqProofs (disch:=omega) only[go_sem]
   exact nL
 simp-implicitDefEqProofs (disch:=omega) only[go_sem];refine a5 (fun bN=>?_) (fun bN=>?_)
 . simp-implicitDefEqProofs (disch:=omega) only[go_sem]
   exact nL
 simp-implicitDefEqProofs (disch:=omega) only[go_sem];refine a5 (fun c5=>?_) (fun c5=>?_)
 . simp-implicitDefEqProofs (disch:=omega) only[go_sem]
   exact nL
 simp-implicitDefEqProofs (disch:=omega) only[go_sem];refine ek n.runs (fun i vs M=>vs=[.ptr 0 0,.int .i64 i]/\M=[.box n.row]/\∀(j:Nat)(r:bS),j<i->n.runs[j]? =some r->r.calls.length<=6) ⟨rfl,rfl,fun j r ap=>absurd ap (fb _)⟩ ?_ ?_
 . rintro i r vs M al hi aw ⟨rfl,rfl,H⟩
   simp-implicitDefEqProofs (disch:=omega) only[go_sem,aw,al,Net.row,bS.row];refine a5 (fun er=>?_) (fun er=>?_)
   . simp-implicitDefEqProofs (disch:=omega) only[go_sem]
     exact nL
   simp-implicitDefEqProofs (disch:=omega) only[go_sem];refine c6 hi ⟨rfl,rfl,fun j x ap ab=>?_⟩;rcases jn.1 ap with h|h
   . exact H j x h ab
   . subst h;rw[al] at ab;cases ab;omega
 rintro vs M ⟨rfl,rfl,H⟩;simp-implicitDefEqProofs (disch:=omega) only[go_sem,dg,Net.row];refine fI (VM n aK) ?_;rintro v ⟨b,rfl,aj⟩;simp-implicitDefEqProofs (disch:=omega) only[go_sem];refine⟨b,rfl,fun g=>⟨aj g,by omega,by omega,by omega,by omega,fun r al=>?_⟩⟩;obtain⟨i,hi⟩:=ij al;exact H i r (bn.1 hi).1 hi
theorem aKK(N:Nat)(q:Query)(db:(N:Int)<=1000):bQ av IX [.int .i64 N,.agg q.row] (wq (qK N q)):=by
 have nL:wq (qK N q) (.bool false):=⟨false,rfl,fun h=>by cases h⟩;refine bZ aDu (by simp[GJ]) ?_;simp-implicitDefEqProofs (disch:=omega) only[go_sem,GJ,Query.row];first|refine b0 (qa _ _ _) ?_|refine bV (qa _ _ _) ?_
 simp-implicitDefEqProofs (disch:=omega) only[go_sem];refine cp (fun aW=>?_) (fun aW=>?_);rotate_left
 . simp-implicitDefEqProofs (disch:=omega) only[go_sem]
   exact nL
 simp-implicitDefEqProofs (disch:=omega) only[go_sem];first|refine b0 (qa _ _ _) ?_|refine bV (qa _ _ _) ?_
 simp-implicitDefEqProofs (disch:=omega) only[go_sem];refine cp (fun a9=>?_) (fun a9=>?_);rotate_left
 . simp-implicitDefEqProofs (disch:=omega) only[go_sem]
   exact nL
 simp-implicitDefEqProofs (disch:=omega) only[go_sem];first|refine b0 (qa _ _ _) ?_|refine bV (qa _ _ _) ?_
 simp-implicitDefEqProofs (disch:=omega) only[go_sem];refine cp (fun bN=>?_) (fun bN=>?_);rotate_left
 . simp-implicitDefEqProofs (disch:=omega) only[go_sem]
   exact nL
 simp-implicitDefEqProofs (disch:=omega) only[go_sem];first|refine b0 (qa _ _ _) ?_|refine bV (qa _ _ _) ?_
 simp-implicitDefEqProofs (disch:=omega) only[go_sem];refine cp (fun c5=>?_) (fun c5=>?_);rotate_left
 . simp-implicitDefEqProofs (disch:=omega) only[go_sem]
   exact nL
 simp-implicitDefEqProofs (disch:=omega) only[go_sem];first|refine b0 (qa _ _ _) ?_|refine bV (qa _ _ _) ?_
 simp-implicitDefEqProofs (disch:=omega) only[go_sem];refine cp (fun er=>?_) (fun er=>?_);rotate_left
 . simp-implicitDefEqProofs (disch:=omega) only[go_sem]
   exact nL
 simp-implicitDefEqProofs (disch:=omega) only[go_sem];first|refine b0 (qa _ _ _) ?_|refine bV (qa _ _ _) ?_
 simp-implicitDefEqProofs (disch:=omega) only[go_sem];refine cp (fun eT=>?_) (fun eT=>?_);rotate_left
 . simp-implicitDefEqProofs (disch:=omega) only[go_sem]
   exact nL
 rw[within_iff] at aW a9 bN c5 er eT;have mk:¬(q.A1=true/\q.back=true)->qK N q:=fun h=>⟨by omega,by omega,bN,c5,er,eT,h⟩;simp-implicitDefEqProofs (disch:=omega) only[go_sem];refine cp (fun iy=>?_) (fun iy=>?_)
 . simp-implicitDefEqProofs (disch:=omega) only[go_sem]
   exact⟨_,rfl,fun h=>mk fun e=>by rw[e.2] at h;cases h⟩
 . simp-implicitDefEqProofs (disch:=omega) only[go_sem]
   exact⟨_,rfl,fun h=>mk fun e=>by rw[e.1] at iy;cases iy⟩
theorem aKF(n:Net)(q:Query)(aK:n.wf):bQ av IW [.agg n.row,.agg q.row] (fy (EJ n/\qK n.stops.length q)):=by
 refine bZ aDt (by simp[GI]) ?_;simp-implicitDefEqProofs (disch:=omega) only[go_sem,GI,Net.row];refine fI (VM n aK) ?_;rintro v ⟨b,rfl,aj⟩;simp-implicitDefEqProofs (disch:=omega) only[go_sem];refine cp (fun aW=>?_) (fun aW=>?_)
 . simp-implicitDefEqProofs (disch:=omega) only[go_sem]
   exact⟨_,rfl,fun h=>absurd h (by decide)⟩
 have U:=aj (by simpa using aW);have af:=U.stops.1;simp-implicitDefEqProofs (disch:=omega) only[go_sem,Query.row];refine fI (aKK n.stops.length q (by omega)) ?_;rintro v ⟨dF,rfl,q5⟩;simp-implicitDefEqProofs (disch:=omega) only[go_sem];refine cp (fun a9=>?_) (fun a9=>?_)
 . simp-implicitDefEqProofs (disch:=omega) only[go_sem]
   exact⟨_,rfl,fun _=>⟨U,q5 (by simpa using a9)⟩⟩
 simp-implicitDefEqProofs (disch:=omega) only[go_sem];exact⟨_,rfl,fun h=>absurd h (by decide)⟩
theorem aBW(n:Net)(q:Query)(aK:n.wf):bQ av I0 [.agg n.row,.agg q.row] (wq (g2 n/\qK n.stops.length q/\q.b1<=3)):=by
 have nL:wq (g2 n/\qK n.stops.length q/\q.b1<=3) (.bool false):=⟨false,rfl,fun h=>by cases h⟩;refine bZ aDx (by simp[GM]) ?_;simp-implicitDefEqProofs (disch:=omega) only[go_sem,GM,Net.row,Query.row];refine fI (aKJ n aK) ?_;rintro v ⟨b,rfl,aj⟩;simp-implicitDefEqProofs (disch:=omega) only[go_sem];refine cp (fun aW=>?_) (fun aW=>?_);rotate_left
 . simp-implicitDefEqProofs (disch:=omega) only[go_sem]
   exact nL
 simp-implicitDefEqProofs (disch:=omega) only[go_sem];refine a5 (fun a9=>?_) (fun a9=>?_);rotate_left
 . simp-implicitDefEqProofs (disch:=omega) only[go_sem]
   exact nL
 simp-implicitDefEqProofs (disch:=omega) only[go_sem];refine fI (aKF n q aK) ?_;rintro v ⟨e,rfl,he⟩;simp-implicitDefEqProofs (disch:=omega) only[go_sem];exact⟨_,rfl,fun h=>⟨aj aW,(he (by simpa using h)).2,a9⟩⟩
end Go.aQ.C
namespace Go.aQ.C
open Go.aQ
structure j0{α:Type}[DecidableEq α](c:fl)(cE:α->V):Prop where
 key:∀x,kw c (cE x)=true
 eq:∀x y,hV c (cE x) (cE y)=some (decide (x=y))
section
variable{α:Type}[DecidableEq α]{c:fl}{cE:α->V}
def cC(cE:α->V)(l:List (α×V)):List (V×V):=l.map fun e=>(cE e.1,e.2)
theorem z7(h:j0 c cE)(x:α):∀l:List (α×V),nD c (cE x) (cC cE l)=true
 |[]=>rfl
 |e::l=>by
  show((hV c (cE x) (cE e.1)).isSome&&nD c (cE x) (cC cE l))=true;rw[z7 h x l,h.eq];rfl
def fR(x:α)(l:List (α×V)):Option V:=(l.find? fun e=>decide (x=e.1)).map (·.2)
theorem UK(h:j0 c cE)(x:α):∀l:List (α×V),rr c (cE x) (cC cE l)=fR x l
 |[]=>rfl
 |e::l=>by
  show(bif (hV c (cE x) (cE e.1)).getD false then some e.2 else rr c (cE x) (cC cE l))=_;rw[UK h x l,h.eq];simp only[fR,List.find?_cons];cases decide (x=e.1)<;>rfl
theorem UP(h:j0 c cE)(x:α)(v:V):∀l:List (α×V),(∀e∈l,e.1≠x)->oi c (cE x) v (cC cE l)=cC cE (l++[(x,v)])
 |[],_=>rfl
 |e::l,aK=>by
  have U:decide (x=e.1)=false:=decide_eq_false fun q=>aK e (by simp) q.symm;show(bif (hV c (cE x) (cE e.1)).getD false then _ else(cE e.1,e.2)::oi c (cE x) v (cC cE l))=_;rw[UP h x v l fun q aG=>aK q (by simp[aG]),h.eq,U];rfl
theorem z_(h:j0 c cE)(z:V)(ok:Bool)(x:α)(l:List (α×V)):nF c z ok (cE x) (cC cE l)=some (match fR x l with
 |some v=>(match ok with|true=>.tuple [v,.bool true]|false=>v)
 |none=>(match ok with|true=>.tuple [z,.bool false]|false=>z)):=by
 simp only[nF,oh,m2,h.key,cond_true,ja,z7 h,UK h,Fc];cases fR x l<;>rfl
theorem W_(h:j0 c cE){x:α}{v:V}{l:List (α×V)}(aq:v.iA=true)(aK:∀e∈l,e.1≠x):nR c (cE x) v (cC cE l)=some (cC cE (l++[(x,v)])):=by
 simp only[nR,h.key,z7 h,aq,eR,cond_true,UP h x v l aK]
theorem v_(n:Nat):∀l:List (α×V),(∀e∈l,e.2.under n=true)->nb n (cC cE l)=true
 |[],_=>rfl
 |e::l,h=>by
  show(V.under n e.2&&nb n (cC cE l))=true;rw[v_ n l fun q aG=>h q (by simp[aG]),h e (by simp)];rfl
def i6(l:List α):List (α×V):=l.map fun x=>(x,.bool true)
theorem aLE(l:List α)(x:α):i6 l++[(x,.bool true)]=i6 (l++[x]):=by simp[i6]
theorem SS(x:α):∀l:List α,fR x (i6 l)=if x∈l then some (.bool true) else none
 |[]=>rfl
 |y::l=>by
  have bq:=SS x l;unfold fR i6 at bq⊢;rw[hQ,List.find?_cons];by_cases h:x=y
  . subst h;simp
  . have aw:decide (x=y)=false:=decide_eq_false h
    simp only[jm,h,false_or];exact bq
theorem aIG(h:j0 c cE)(x:α)(l:List α):nF c (.bool false) false (cE x) (cC cE (i6 l))=some (.bool (decide (x∈l))):=by
 rw[z_ h,SS];by_cases ab:x∈l<;>simp[ab]
theorem xX(h:j0 c cE){x:α}{l:List α}(aK:x∉l):nF c (.bool false) false (cE x) (cC cE (i6 l))=some (.bool false):=by
 rw[aIG h,decide_eq_false aK]
theorem yw(h:j0 c cE){x:α}{l:List α}(aK:x∉l):nR c (cE x) (.bool true) (cC cE (i6 l))=some (cC cE (i6 (l++[x]))):=by
 rw[W_ h rfl fun e he=>?_,aLE];obtain⟨y,aD,rfl⟩:=ld.1 he;exact fun q=>aK (q▸aD)
theorem wc(n:Nat)(l:List α):nb n (cC cE (i6 l))=true:=v_ n _ fun e he=>by
 obtain⟨y,_,rfl⟩:=ld.1 he;rfl
end
def rN(s:List UInt8):V:=.str s
theorem JI:j0 .str rN:=⟨fun _=>rfl,fun _ _=>rfl⟩
def iY(n:Int):V:=.int .i64 n
theorem vH:j0 .int iY:=⟨fun _=>rfl,fun x y=>by simp[iY,hV,hA]⟩
theorem DJ{α β:Type}{l:List α}{f:α->β}{i:Nat}{x:α}(h:∀(k:Nat)(t:α),k<i->l[k]? =some t->f t≠f x):f x∉(l.take i).map f:=fun hm=>by
 obtain⟨t,aT,he⟩:=ld.1 hm;obtain⟨k,ao,zz⟩:=Ad aT;exact h k t ao zz he
theorem Ay{α β:Type}{l:List α}{f:α->β}{i:Nat}{x:α}(h:l[i]? =some x):(l.take i).map f++[f x]=(l.take (i+1)).map f:=by
 rw[hR,h];simp
theorem Ww(l:List Stop)(c:c3)(ag:∀s∈l,s.wf)(ok:EN l):bQ av IJ [.slice (l.map Stop.row) c] (fun v=>v=ic (0,0)):=by
 obtain⟨hlen,ok⟩:=ok;refine bZ aDd (by simp[Gr]) ?_;simp-implicitDefEqProofs (disch:=omega) only[go_sem,Gr];refine a5 (fun h=>?_) (fun _=>?_)
 . omega
 simp-implicitDefEqProofs (disch:=omega) only[go_sem];refine ek l (fun i vs M=>vs=[.map 0,.slice (l.map Stop.row) c,.int .i64 l.length,.int .i64 i]/\M=[.map (cC rN (i6 ((l.take i).map Stop.id)))]) ⟨rfl,rfl⟩ ?_ ?_;rotate_left
 . rintro vs M ⟨rfl,rfl⟩
   simp-implicitDefEqProofs (disch:=omega) only[go_sem,dg,ic]
 rintro i s vs M ak hi aw ⟨rfl,rfl⟩;obtain⟨U,af,ay,be⟩:=ok i s ak;have aK:=DJ be;have a6:nF .str (.bool false) false (.str s.id) (cC rN (i6 ((l.take i).map Stop.id)))=some (.bool false):=xX JI aK;have ba:nR .str (.str s.id) (.bool true) (cC rN (i6 ((l.take i).map Stop.id)))=some (cC rN (i6 ((l.take (i+1)).map Stop.id))):=by
  rw[show V.str s.id=rN s.id from rfl,yw JI aK,Ay ak]
 simp-implicitDefEqProofs (disch:=omega) only[go_sem,aw,ak,Stop.row];first|refine b0 (vF s.id (ag s (dO ak)).1) ?_|refine bV (vF s.id (ag s (dO ak)).1) ?_
 simp-implicitDefEqProofs (disch:=omega) only[go_sem,U,a6];refine a5 (fun h=>?_) (fun _=>?_)
 . omega
 simp-implicitDefEqProofs (disch:=omega) only[go_sem];refine a5 (fun h=>?_) (fun _=>?_)
 . omega
 simp-implicitDefEqProofs (disch:=omega) only[go_sem];refine a5 (fun h=>?_) (fun _=>?_)
 . omega
 simp-implicitDefEqProofs (disch:=omega) only[go_sem];refine a5 (fun h=>?_) (fun _=>?_)
 . omega
 simp-implicitDefEqProofs (disch:=omega) only[go_sem,ba];exact dC hi (by simp[hK,dt,aY,cS,V.under,cL,a2.under,wc]) ⟨rfl,rfl⟩
theorem V0(m:Int):bQ av Iq [.int .i64 m] (fun v=>v=.bool (decide (0<=m/\m<8))):=by
 refine bZ aCY (by simp[Ga]) ?_;simp-implicitDefEqProofs (disch:=omega) only[go_sem,Ga];refine a5 (fun h=>?_) (fun h=>?_)
 . simp-implicitDefEqProofs (disch:=omega) only[go_sem]
   exact decide_eq_decide.2 (by omega)
 . simp-implicitDefEqProofs (disch:=omega) only[go_sem]
   symm;exact decide_eq_false (by omega)
theorem VZ(l:List fi)(c:c3)(ag:∀s∈l,s.wf)(ok:AS l):bQ av Ip [.slice (l.map fi.row) c] (fun v=>v=ic (0,0)):=by
 obtain⟨hlen,ok⟩:=ok;refine bZ aCX (by simp[F_]) ?_;simp-implicitDefEqProofs (disch:=omega) only[go_sem,F_];refine a5 (fun h=>?_) (fun _=>?_)
 . omega
 simp-implicitDefEqProofs (disch:=omega) only[go_sem];refine ek l (fun i vs M=>vs=[.map 0,.slice (l.map fi.row) c,.int .i64 l.length,.int .i64 i]/\M=[.map (cC rN (i6 ((l.take i).map fi.id)))]) ⟨rfl,rfl⟩ ?_ ?_;rotate_left
 . rintro vs M ⟨rfl,rfl⟩
   simp-implicitDefEqProofs (disch:=omega) only[go_sem,dg,ic]
 rintro i s vs M ak hi aw ⟨rfl,rfl⟩;obtain⟨U,af,be⟩:=ok i s ak;have aK:=DJ be;have a6:nF .str (.bool false) false (.str s.id) (cC rN (i6 ((l.take i).map fi.id)))=some (.bool false):=xX JI aK;have ba:nR .str (.str s.id) (.bool true) (cC rN (i6 ((l.take i).map fi.id)))=some (cC rN (i6 ((l.take (i+1)).map fi.id))):=by
  rw[show V.str s.id=rN s.id from rfl,yw JI aK,Ay ak]
 have bv:decide (0<=s.mode/\s.mode<8)=true:=decide_eq_true ⟨by omega,by omega⟩;simp-implicitDefEqProofs (disch:=omega) only[go_sem,aw,ak,fi.row];first|refine b0 (vF s.id (ag s (dO ak)).1) ?_|refine bV (vF s.id (ag s (dO ak)).1) ?_
 simp-implicitDefEqProofs (disch:=omega) only[go_sem,U,a6];first|refine b0 (V0 s.mode) ?_|refine bV (V0 s.mode) ?_
 simp-implicitDefEqProofs (disch:=omega) only[go_sem,bv,ba];exact dC hi (by simp[hK,dt,aY,cS,V.under,cL,a2.under,wc]) ⟨rfl,rfl⟩
theorem Qo(l:List cd)(c:c3)(i:Nat)(stops low high:Int)(hlen:l.length<=32)(hi:i<l.length)(ok:Ey l stops low high i):bQ av Hz [.slice (l.map cd.row) c,.int .i64 i,.int .i64 stops,.int .i64 low,.int .i64 high] (fun v=>v=.int .i64 0):=by
 obtain⟨s,ak⟩:∃s,l[i]? =some s:=⟨l[i],by simp⟩;obtain⟨U,af,ay⟩:=ok s ak;refine bZ aCc (by simp[Fw]) ?_;simp-implicitDefEqProofs (disch:=omega) only[go_sem,Fw,ak,cd.row];refine a5 (fun h=>?_) (fun _=>?_)
 . omega
 simp-implicitDefEqProofs (disch:=omega) only[go_sem];refine a5 (fun h=>?_) (fun _=>?_)
 . omega
 simp-implicitDefEqProofs (disch:=omega) only[go_sem];refine a5 (fun ax=>?_) (fun ax=>?_);rotate_left
 . simp-implicitDefEqProofs (disch:=omega) only[go_sem]
   refine a5 (fun h=>?_) (fun _=>?_)
   . omega
   simp-implicitDefEqProofs (disch:=omega) only[go_sem];refine a5 (fun h=>?_) (fun _=>?_)
   . omega
   simp-implicitDefEqProofs (disch:=omega) only[go_sem];refine a5 (fun h=>?_) (fun _=>?_)
   . omega
   simp-implicitDefEqProofs (disch:=omega) only[go_sem];refine a5 (fun h=>?_) (fun _=>?_)
   . omega
   simp-implicitDefEqProofs (disch:=omega) only[go_sem]
 have zu:0<i:=by omega
 obtain⟨p,C6⟩:∃p,l[i -1]? =some p:=⟨l[i -1],by simp⟩;obtain⟨be,bv⟩:=ay p zu C6;have hw:IntKind.i64.wrap ((i:Int) -1)=(i:Int) -1:=by rw[nz];omega
 have C2:((i:Int) -1)=((i -1:Nat):Int):=by omega
 simp-implicitDefEqProofs (disch:=omega) only[go_sem,C2,C6,cd.row];refine a5 (fun h=>?_) (fun _=>?_)
 . exact absurd h be
 simp-implicitDefEqProofs (disch:=omega) only[go_sem];refine a5 (fun h=>?_) (fun _=>?_)
 . omega
 simp-implicitDefEqProofs (disch:=omega) only[go_sem];refine a5 (fun h=>?_) (fun _=>?_)
 . omega
 simp-implicitDefEqProofs (disch:=omega) only[go_sem];refine a5 (fun h=>?_) (fun _=>?_)
 . omega
 simp-implicitDefEqProofs (disch:=omega) only[go_sem];refine a5 (fun _=>?_) (fun h=>?_);rotate_left
 . omega
 simp-implicitDefEqProofs (disch:=omega) only[go_sem,C2,C6,cd.row];refine a5 (fun h=>?_) (fun _=>?_)
 . omega
 simp-implicitDefEqProofs (disch:=omega) only[go_sem]
theorem Qn(l:List cd)(c:c3)(stops low high:Int)(ok:AL l stops low high):bQ av Hy [.slice (l.map cd.row) c,.int .i64 stops,.int .i64 low,.int .i64 high] (fun v=>v=ic (0,0)):=by
 obtain⟨U,af,ok⟩:=ok;refine bZ aCb (by simp[Fv]) ?_;simp-implicitDefEqProofs (disch:=omega) only[go_sem,Fv];refine a5 (fun h=>?_) (fun _=>?_)
 . omega
 simp-implicitDefEqProofs (disch:=omega) only[go_sem];refine a5 (fun h=>?_) (fun _=>?_)
 . omega
 simp-implicitDefEqProofs (disch:=omega) only[go_sem];refine ek l (fun i vs M=>vs=[.slice (l.map cd.row) c,.int .i64 stops,.int .i64 low,.int .i64 high,.int .i64 l.length,.int .i64 i]/\M=[]) ⟨rfl,rfl⟩ ?_ ?_;rotate_left
 . rintro vs M ⟨rfl,rfl⟩
   simp-implicitDefEqProofs (disch:=omega) only[go_sem,dg,ic]
 rintro i s vs M ak hi aw ⟨rfl,rfl⟩;simp-implicitDefEqProofs (disch:=omega) only[go_sem,aw];first|refine b0 (Qo l c i stops low high af hi (ok i)) ?_|refine bV (Qo l c i stops low high af hi (ok i)) ?_
 simp-implicitDefEqProofs (disch:=omega) only[go_sem];exact c6 hi ⟨rfl,rfl⟩
end Go.aQ.C
namespace Go.aQ.C
open Go.aQ
theorem qj(i n:Int):bQ av tS [.int .i64 i,.int .i64 n] (fun v=>v=.bool (decide (0<=i/\i<n))):=by
 refine bZ aCW (by simp[F9]) ?_;simp-implicitDefEqProofs (disch:=omega) only[go_sem,F9];refine a5 (fun h=>?_) (fun h=>?_)
 . simp-implicitDefEqProofs (disch:=omega) only[go_sem]
   exact decide_eq_decide.2 (by omega)
 . simp-implicitDefEqProofs (disch:=omega) only[go_sem]
   symm;exact decide_eq_false (by omega)
def gB(p i e:Int):List V:=[.int .i64 p,.int .i64 i,.int .i64 e]
theorem Ag(p i e:Int):bQ av jP [.int .i64 p,.int .i64 i,.int .i64 e] (fun v=>v=.agg (gB p i e)):=by
 refine bZ aCV (by simp[F8]) ?_;simp-implicitDefEqProofs (disch:=omega) only[go_sem,F8,gB]
theorem aJx(l:List (Int×Int×Int))(c:c3)(ag:l.length<=10):bQ av zU [.slice (l.map fun r=>gB r.1 r.2.1 r.2.2) c] (fun v=>∃p i e,v=.agg (gB p i e)/\((∀r∈l,r.2.2=0)->p=0/\i=0/\e=0)):=by
 refine bZ aCM (by simp[F6]) ?_;simp-implicitDefEqProofs (disch:=omega) only[go_sem,F6];refine ek l (fun i vs M=>vs=[.ptr 0 0,.slice (l.map fun r=>gB r.1 r.2.1 r.2.2) c,.int .i64 l.length,.int .i64 i]/\M=[.box (gB 0 0 0)]/\∀(j:Nat)(r:Int×Int×Int),j<i->l[j]? =some r->r.2.2=0) ⟨rfl,rfl,fun j r ap=>absurd ap (fb _)⟩ ?_ ?_;rotate_left
 . rintro vs M ⟨rfl,rfl,H⟩
   simp-implicitDefEqProofs (disch:=omega) only[go_sem,dg,gB];exact⟨0,0,0,rfl,fun _=>⟨rfl,rfl,rfl⟩⟩
 rintro i r vs M al hi aw ⟨rfl,rfl,H⟩;simp-implicitDefEqProofs (disch:=omega) only[go_sem,aw,al,gB];refine a5 (fun h=>?_) (fun h=>?_)
 . simp-implicitDefEqProofs (disch:=omega) only[go_sem]
   refine dC hi rfl ⟨rfl,rfl,fun j x ap ab=>?_⟩;rcases jn.1 ap with U|U
   . exact H j x U ab
   . subst U;rw[al] at ab;cases ab;exact h
 . simp-implicitDefEqProofs (disch:=omega) only[go_sem]
   exact⟨_,_,_,rfl,fun d9=>absurd (d9 r (dO al)) h⟩
def runK(k:List UInt8×Int×Int):V:=.agg [.str k.1,.int .i64 k.2.1,.int .i64 k.2.2]
theorem V7:j0 (.cells [.str,.int,.int]) runK:=⟨fun _=>rfl,fun x y=>by
 obtain⟨a,b,c⟩:=x;obtain⟨d,e,f⟩:=y;simp[runK,hV,gw,hA,Bool.decide_and]⟩
theorem aAa(n:Net)(aK:n.wf)(ok:yR n):bQ av H9 [.agg n.row] (fun v=>v=.agg (gB 0 0 0)):=by
 obtain⟨hlen,ok⟩:=ok;refine bZ aCL (by simp[F5]) ?_;simp-implicitDefEqProofs (disch:=omega) only[go_sem,F5,Net.row];refine a5 (fun h=>?_) (fun _=>?_)
 . omega
 simp-implicitDefEqProofs (disch:=omega) only[go_sem];refine ek n.runs (fun i vs M=>vs=[.ptr 0 0,.ptr 1 0,.map 2,.slice (n.runs.map bS.row) n.rQ,.int .i64 n.runs.length,.int .i64 i]/\M=[.box n.row,.box (gB 0 0 0),.map (cC runK (i6 ((n.runs.take i).map bS.key)))]) ⟨rfl,rfl⟩ ?_ ?_;rotate_left
 . rintro vs M ⟨rfl,rfl⟩
   simp-implicitDefEqProofs (disch:=omega) only[go_sem,dg,gB,Net.row]
 rintro i r vs M al hi aw ⟨rfl,rfl⟩;obtain⟨U,af,ay,be,bv,b7,dQ⟩:=ok i r al;have lX:=aK.runs.1 r (dO al);have mo:=DJ dQ;have a6:=xX V7 mo;have ba:=yw V7 mo;rw[Ay al] at ba;simp only[runK,bS.key] at a6 ba;have aOq:=b7.2.1;simp-implicitDefEqProofs (disch:=omega) only[go_sem,aw,al,bS.row,Net.row];first|refine b0 (vF r.id lX.2.2.2.1) ?_|refine bV (vF r.id lX.2.2.2.1) ?_
 simp-implicitDefEqProofs (disch:=omega) only[go_sem,U];refine a5 (fun h=>?_) (fun _=>?_)
 . omega
 simp-implicitDefEqProofs (disch:=omega) only[go_sem];refine a5 (fun h=>?_) (fun _=>?_)
 . omega
 simp-implicitDefEqProofs (disch:=omega) only[go_sem];refine a5 (fun h=>?_) (fun _=>?_)
 . omega
 simp-implicitDefEqProofs (disch:=omega) only[go_sem];refine a5 (fun h=>?_) (fun _=>?_)
 . omega
 simp-implicitDefEqProofs (disch:=omega) only[go_sem];refine a5 (fun h=>?_) (fun _=>?_)
 . omega
 simp-implicitDefEqProofs (disch:=omega) only[go_sem];refine a5 (fun h=>?_) (fun _=>?_)
 . omega
 simp-implicitDefEqProofs (disch:=omega) only[go_sem];first|refine b0 (Qn r.calls r.tag n.stops.length 0 3155932800 b7) ?_|refine bV (Qn r.calls r.tag n.stops.length 0 3155932800 b7) ?_
 simp-implicitDefEqProofs (disch:=omega) only[go_sem,ic,a6];simp-implicitDefEqProofs (disch:=omega) only[go_sem,ba];refine dC hi (by simp[hK,dt,aY,cS,V.under,cL,a2.under,wc,gB]) ⟨rfl,rfl⟩
end Go.aQ.C
namespace Go.aQ.C
open Go.aQ
def rM(ls:List dA):List dA:=ls.filter (·.stay)
def nK(ls:List dA):List (Int×V):=(rM ls).map fun l=>(l.src,.int .i64 l.dst)
theorem aDH{ls:List dA}{x:Int}{v:V}(h:fR x (nK ls)=some v):∃y,v=.int .i64 y/\pG ls x y:=by
 unfold fR at h;obtain⟨e,he,rfl⟩:=dJ.1 h;have hm:=List.mem_of_find?_eq_some he;have ax:=List.find?_some he;simp only[decide_eq_true_eq] at ax;obtain⟨l,ag,rfl⟩:=ld.1 hm;have gT:=oH.1 ag;exact⟨l.dst,rfl,l,gT.1,gT.2,ax.symm,rfl⟩
theorem Na(ls:List dA)(x:Int):∃y t,nF .int (.int .i64 0) true (.int .i64 x) (cC iY (nK ls))=some (.tuple [.int .i64 y,.bool t])/\(t=true->pG ls x y)/\(t=true->∃v,fR x (nK ls)=some v):=by
 rw[show V.int .i64 x=iY x from rfl,z_ vH];cases h:fR x (nK ls) with
 |none=>exact⟨0,false,rfl,(fun e=>by cases e),(fun e=>by cases e)⟩
 |some v=>
  obtain⟨y,rfl,ak⟩:=aDH h;exact⟨y,true,rfl,fun _=>ak,fun _=>⟨_,rfl⟩⟩
theorem aJy{M:Mem}{id:Nat}{ls:List dA}{d:Int->Nat}(x y:Int)(bb:M[id]? =some (.map (cC iY (nK ls))))(e1:cL M.length M=true)(aw:yK ls d)(p4:¬ma ls x y):
 cj av Ih [.map id,.int .i64 x,.int .i64 y] M (fun v ah=>v=.bool false/\ah=M):=by
 have eQ:List.take M.length M=M:=g0;refine bZ aCU (by simp[F7]) ?_;obtain⟨u,t,a6,ak,_⟩:=Na ls x;simp-implicitDefEqProofs (disch:=omega) only[go_sem,F7,bb,a6];refine oC (fun m vs N=>∃(qN:Int)(ok:Bool),vs=[.map id,.int .i64 y,.int .i64 qN,.bool ok]/\N=M/\(ok=true->ma ls x qN/\d qN<m)) (d x+1) ⟨u,t,rfl,rfl,fun h=>⟨.single (ak h),by have:=aw _ _ (ak h);omega⟩⟩ ?_;rintro m vs N ⟨a,ok,rfl,rfl,H⟩;simp-implicitDefEqProofs (disch:=omega) only[go_sem];refine cp (fun aW=>?_) (fun aW=>?_)
 . obtain⟨U,af⟩:=H aW
   obtain⟨sT,t2,ba,iz,_⟩:=Na ls a;simp-implicitDefEqProofs (disch:=omega) only[go_sem];refine a5 (fun a9=>?_) (fun a9=>?_)
   . subst a9;exact absurd U p4
   simp-implicitDefEqProofs (disch:=omega) only[go_sem,bb,ba];exact yf (d a) af ⟨sT,t2,rfl,rfl,fun h=>⟨.tail U (iz h),aw _ _ (iz h)⟩⟩
 . simp-implicitDefEqProofs (disch:=omega) only[go_sem,eQ,e1]
def I9(k:Int×Int×Int×Int):V:=.agg [.int .i64 k.1,.int .i64 k.2.1,.int .i64 k.2.2.1,.int .i64 k.2.2.2]
theorem UB:j0 (.cells [.int,.int,.int,.int]) I9:=⟨fun _=>rfl,fun x y=>by
 obtain⟨a,b,c,d⟩:=x;obtain⟨e,f,g,h⟩:=y;simp[I9,hV,gw,hA,Bool.decide_and]⟩
theorem Ws{ls:List dA}{i:Nat}{l:dA}(h:ls[i]? =some l):rM (ls.take (i+1))=rM (ls.take i)++if l.stay=true then[l] else[]:=by
 rw[rM,hR,h,List.filter_append];cases ak:l.stay<;>simp[rM,ak]
theorem Wq{n:Net}{i:Nat}{l:dA}(h:OW n i l)(ak:l.stay=true){o:dA}(az:o∈rM (n.b9.take i)):o.src≠l.src/\o.dst≠l.dst:=by
 have:=oH.1 az;obtain⟨k,ao,g4⟩:=Ad this.1;exact h.uniq ak k o ao g4 this.2
theorem Ok(n:Nat)(ls:List dA):nb n (cC iY (nK ls))=true:=v_ n _ fun e he=>by
 obtain⟨y,_,rfl⟩:=ld.1 he;rfl
theorem az9(n:Net)(aK:n.wf)(ok:yM n):bQ av H7 [.agg n.row] (fun v=>v=.agg (gB 0 0 0)):=by
 have hm:maxLen=9223372036854775807:=by rfl
 obtain⟨hlen,ok⟩:=ok;have n8:=aK.runs.2;refine bZ aCJ (by simp[F3]) ?_;simp-implicitDefEqProofs (disch:=omega) only[go_sem,F3,Net.row];refine a5 (fun h=>?_) (fun _=>?_)
 . omega
 simp-implicitDefEqProofs (disch:=omega) only[go_sem];refine ek n.b9 (fun i vs M=>vs=[.ptr 0 0,.ptr 1 0,.map 2,.map 3,.map 4,.slice (n.b9.map dA.row) n.lc,.int .i64 n.b9.length,.int .i64 i]/\
  M=[.box n.row,.box (gB 0 0 0),.map (cC iY (nK (n.b9.take i))),.map (cC iY (i6 ((rM (n.b9.take i)).map dA.dst))),.map (cC I9 (i6 ((n.b9.take i).map dA.key)))]) ⟨rfl,rfl⟩ ?_ ?_;rotate_left
 . rintro vs M ⟨rfl,rfl⟩
   simp-implicitDefEqProofs (disch:=omega) only[go_sem,dg,gB,Net.row]
 rintro i l vs M ag hi aw ⟨rfl,rfl⟩;have qN:=ok i l ag;obtain⟨⟨s1,ds⟩,⟨d1,d2⟩,cr,LY,aG9,Hc,jh⟩:=qN;obtain⟨a,bk⟩:∃a,n.runs[l.src.toNat]? =some a:=⟨n.runs[l.src.toNat]'(by omega),by simp⟩;obtain⟨b,aj⟩:∃b,n.runs[l.dst.toNat]? =some b:=⟨n.runs[l.dst.toNat]'(by omega),by simp⟩;obtain⟨⟨eS,gQ⟩,⟨qU,wG⟩,aG3,aE3⟩:=LY a b bk aj;have aEs:=(aK.runs.1 a (dO bk)).2.2.2.2.2.2;obtain⟨c,ar⟩:∃c,a.calls[l.hY.toNat]? =some c:=⟨a.calls[l.hY.toNat]'(by omega),by simp⟩;obtain⟨e,he⟩:∃e,b.calls[l.j7.toNat]? =some e:=⟨b.calls[l.j7.toNat]'(by omega),by simp⟩;have aEH:=aG3 c e ar he;have hp:decide (0<=l.src/\l.src<(n.runs.length:Int))=true:=decide_eq_true ⟨s1,ds⟩;have lF:decide (0<=l.dst/\l.dst<(n.runs.length:Int))=true:=decide_eq_true ⟨d1,d2⟩;have we:decide (0<=l.hY/\l.hY<(a.calls.length:Int))=true:=decide_eq_true ⟨eS,gQ⟩;have Oy:decide (0<=l.j7/\l.j7<(b.calls.length:Int))=true:=decide_eq_true ⟨qU,wG⟩;obtain⟨u,t,a6,ak,gr⟩:=Na (n.b9.take i) l.src;have TG:=DJ jh;have bH:=xX UB TG;have b8:=yw UB TG;rw[Ay ag] at b8;simp only[I9,dA.key] at bH b8;simp-implicitDefEqProofs (disch:=omega) only[go_sem,aw,ag,dA.row,Net.row];first|refine b0 (qj _ _) ?_|refine bV (qj _ _) ?_
 simp-implicitDefEqProofs (disch:=omega) only[go_sem,hp];first|refine b0 (qj _ _) ?_|refine bV (qj _ _) ?_
 simp-implicitDefEqProofs (disch:=omega) only[go_sem,lF];refine a5 (fun h=>absurd h cr) (fun _=>?_);simp-implicitDefEqProofs (disch:=omega) only[go_sem,bk,aj,bS.row];first|refine b0 (qj _ _) ?_|refine bV (qj _ _) ?_
 simp-implicitDefEqProofs (disch:=omega) only[go_sem,we];first|refine b0 (qj _ _) ?_|refine bV (qj _ _) ?_
 simp-implicitDefEqProofs (disch:=omega) only[go_sem,Oy];simp-implicitDefEqProofs (disch:=omega) only[go_sem,ar,he,cd.row,a6];refine a5 (fun _=>?_) (fun h=>absurd aEH h);simp-implicitDefEqProofs (disch:=omega) only[go_sem];refine cp (fun aW=>?_) (fun aW=>?_);rotate_left
 . have bh:=Ws ag
   rw[aW,if_neg (by simp),fU] at bh;simp-implicitDefEqProofs (disch:=omega) only[go_sem,bH];simp-implicitDefEqProofs (disch:=omega) only[go_sem,b8];refine cp (fun h=>?_) (fun _=>?_)
   . rw[aW] at h;cases h
   simp-implicitDefEqProofs (disch:=omega) only[go_sem];refine dC hi (by simp[hK,dt,aY,cS,V.under,cL,a2.under,wc,Ok,gB]) ⟨rfl,?_⟩;have mP:nK (n.b9.take (i+1))=nK (n.b9.take i):=by rw[nK,bh];rfl
   rw[mP,bh];rfl
 obtain⟨dw,dn⟩:=aE3 aW;have aT:t=false:=by
  cases t with
  |false=>rfl
  |true=>
   obtain⟨o,az,jN,aGo,_⟩:=ak rfl;obtain⟨k,ao,g4⟩:=Ad az;exact absurd aGo (aG9 aW k o ao g4 jN).1
 subst aT;have TB:l.dst∉(rM (n.b9.take i)).map dA.dst:=fun hm=>by
  obtain⟨o,az,he⟩:=ld.1 hm;exact(Wq (ok i l ag) aW az).2 he
 have dS:nF .int (.bool false) false (.int .i64 l.dst) (cC iY (i6 ((rM (n.b9.take i)).map dA.dst)))=some (.bool false):=xX vH TB;have fr:nR .int (.int .i64 l.dst) (.bool true) (cC iY (i6 ((rM (n.b9.take i)).map dA.dst)))=some (cC iY (i6 ((rM (n.b9.take i)).map dA.dst++[l.dst]))):=yw vH TB;have fs:nR .int (.int .i64 l.src) (.int .i64 l.dst) (cC iY (nK (n.b9.take i)))=some (cC iY (nK (n.b9.take i)++[(l.src,.int .i64 l.dst)])):=W_ vH rfl fun q aG=>by
  obtain⟨o,az,rfl⟩:=ld.1 aG;exact(Wq (ok i l ag) aW az).1
 have bh:=Ws ag;rw[aW,if_pos rfl] at bh;have mP:nK (n.b9.take i)++[(l.src,.int .i64 l.dst)]=nK (n.b9.take (i+1)):=by simp[nK,bh]
 rw[mP] at fs;obtain⟨oT,o2⟩:=Fh n i (by omega) fun k _=>ok k;have hw:IntKind.i64.wrap (l.hY+1)=l.hY+1:=by rw[nz];omega
 simp-implicitDefEqProofs (disch:=omega) only[go_sem,hw];refine a5 (fun _=>?_) (fun h=>absurd (by omega) h);simp-implicitDefEqProofs (disch:=omega) only[go_sem];refine a5 (fun _=>?_) (fun h=>absurd dn h);simp-implicitDefEqProofs (disch:=omega) only[go_sem,dS];refine ew (aJy (ls:=n.b9.take i) (d:=oT) l.dst l.src rfl (by simp[cL,a2.under,wc,Ok,cS,V.under,gB]) o2 (Hc aW)) ?_;rintro v ah ⟨rfl,rfl⟩;simp-implicitDefEqProofs (disch:=omega) only[go_sem,bH];simp-implicitDefEqProofs (disch:=omega) only[go_sem,b8];refine cp (fun _=>?_) (fun h=>?_);rotate_left
 . rw[aW] at h;cases h
 simp-implicitDefEqProofs (disch:=omega) only[go_sem,fs,fr];refine dC hi (by simp[hK,dt,aY,cS,V.under,cL,a2.under,wc,Ok,gB]) ⟨rfl,?_⟩;simp[bh,Net.row]
end Go.aQ.C
namespace Go.aQ.C
open Go.aQ
structure dp where
 node:Int
 len:Int
 eb:Int
abbrev cb:=dp×Int
def dp.cells(x:dp):List V:=[.int .i64 x.node,.int .i64 x.len,.int .i64 x.eb]
def hX(e:cb):List V:=[.int .i64 e.1.node,.int .i64 e.1.len,.int .i64 e.1.eb,.int .i64 e.2]
def yi(a b:dp):Bool:=decide (a.len<b.len)||(decide (a.len=b.len)&&decide (a.eb<b.eb))
theorem Wd(a b:dp):bQ av jQ [.agg a.cells,.agg b.cells] (fun v=>v=.bool (yi a b)):=by
 refine bZ aC4 (by simp[Gg]) ?_;simp-implicitDefEqProofs (disch:=omega) only[go_sem,Gg,dp.cells];refine a5 (fun h=>?_) (fun h=>?_)
 . simp-implicitDefEqProofs (disch:=omega) only[go_sem,yi,h,Bool.true_or]
 simp-implicitDefEqProofs (disch:=omega) only[go_sem];refine a5 (fun af=>?_) (fun af=>?_)
 . simp-implicitDefEqProofs (disch:=omega) only[go_sem,yi,af,Bool.false_or,dg]
 . simp-implicitDefEqProofs (disch:=omega) only[go_sem,yi,h,af,Bool.false_or]
def vZ(x y:cb):Bool:=yi x.1 y.1||(!yi y.1 x.1&&decide (x.2<y.2))
def o1(a ver n:Nat)(p:Int):a2:=.box [.dH jQ [],.aX a ver 0 n,.int .i64 p]
def cJ(M:Mem)(h a:Nat)(l j:List cb)(ver:Nat)(p:Int):Mem:=(M.set a (.arr 4 ((l++j).map hX) ver 0)).set h (o1 a ver l.length p)
structure lg(M:Mem)(h a:Nat):Prop where
 aj:h<M.length
 AU:a<M.length
 ne:h≠a
 own:cL M.length M=true
theorem UY{n:Nat}:∀{M:Mem},cL n M=true->∀(i:Nat)(B:a2),M[i]? =some B->B.under n=true
 |[],_,i,B,h=>by simp at h
 |h1::M,hm,i,B,h=>by
  simp only[cL,b_] at hm;cases i with
  |zero=>simp at h;subst h;exact hm.1
  |succ i=>exact UY hm.2 i B (by simpa using h)
theorem DX{n:Nat}{M:Mem}(h:cL n M=true){B:a2}(bY:B.under n=true)(i:Nat):cL n (M.set i B)=true:=
 Ni fun C SZ=>by
  rcases List.mem_or_eq_of_mem_set SZ with U|rfl
  . obtain⟨q,aG⟩:=ij U
    exact UY h q C aG
  . exact bY
section
variable{M:Mem}{h a ver:Nat}{l j:List cb}{p:Int}
theorem q_:(cJ M h a l j ver p).length=M.length:=by simp[cJ]
theorem u_(H:lg M h a):(cJ M h a l j ver p)[h]? =some (o1 a ver l.length p):=by
 rw[cJ,eC (by rw[eO];exact H.aj)]
theorem tA(H:lg M h a):(cJ M h a l j ver p)[a]? =some (.arr 4 ((l++j).map hX) ver 0):=by
 rw[cJ,dx H.ne,eC H.AU]
theorem Tl{i:Nat}(U:i≠h)(af:i≠a):(cJ M h a l j ver p)[i]? =M[i]? :=by
 rw[cJ,dx U.symm,dx af.symm]
theorem tB(H:lg M h a):cL M.length (cJ M h a l j ver p)=true:=
 DX (DX H.own rfl a) (by have:=H.AU;simp[o1,a2.under,cS,V.under];exact this) h
theorem aEY(M:Mem)(h a:Nat)(l j:List cb)(ver:Nat)(p:Int)(A B:a2)(cr:h≠a):((cJ M h a l j ver p).set a A).set h B=(M.set a A).set h B:=by
 refine oF fun q=>?_;simp only[cJ,List.getElem?_set,eO];split
 . rfl
 . split
   . rfl
   . rfl
theorem Tm(cr:h≠a){l' j':List cb}(ag:l'.length=l.length):(cJ M h a l j ver p).set a (.arr 4 ((l'++j').map hX) ver 0)=cJ M h a l' j' ver p:=by
 refine oF fun q=>?_;simp only[cJ,List.getElem?_set,eO,ag];by_cases U:a=q
 . subst U
   rw[if_pos rfl,if_neg cr,if_pos rfl]
 . rw[if_neg U]
   split
   . rfl
   . rfl
theorem Tn(cr:h≠a){l' j':List cb}{p':Int}(he:l++j=l'++j'):(cJ M h a l j ver p).set h (o1 a ver l'.length p')=cJ M h a l' j' ver p':=by
 rw[cJ,cJ,List.set_set,he]
end
theorem eX(i o:Nat):m4 (.ptr i o)=some (.ptr i o):=rfl
theorem wQ(i o:Nat):dB .eql .ptr (.ptr i o) .dm=some (.bool false):=rfl
theorem WH{α:Type}(l:List α):l.take l.length=l:=g0
theorem iP{α:Type}(M L:List α)(i:Nat):(M++L)[M.length+i]? =L[i]? :=by
 rw[jX (by omega),Nat.add_sub_cancel_left]
theorem k7{α:Type}(M L:List α)(i:Nat)(x:α):(M++L).set (M.length+i) x=M++L.set i x:=by
 rw[List.set_append,if_neg (by omega),Nat.add_sub_cancel_left]
theorem kg{α:Type}(M L:List α)(x:α):(M++L).set M.length x=M++L.set 0 x:=by
 rw[List.set_append,if_neg (by omega),mH]
theorem nN{α:Type}{M:List α}{i:Nat}(h:i<M.length)(L:List α)(x:α):(M++L).set i x=M.set i x++L:=by
 rw[List.set_append,if_pos h]
theorem Ac{α β:Type}{f:α->β}{l j:List α}{i:Nat}{x:α}(h:l[i]? =some x):((l++j).map f)[i]? =some (f x):=by
 rw[gY,gh (bn.1 h).1,h];rfl
theorem Ky{M:Mem}{h a ver:Nat}{l j:List cb}{p:Int}(H:lg M h a){i k:Nat}{x y:cb}(hi:l[i]? =some x)(ao:l[k]? =some y):
 cj av xM [.ptr h 0,.int .i64 i,.int .i64 k] (cJ M h a l j ver p) (fun v ah=>v=.bool (vZ x y)/\ah=cJ M h a l j ver p):=by
 have fj:=u_ (l:=l) (j:=j) (ver:=ver) (p:=p) H;have bU:=tA (l:=l) (j:=j) (ver:=ver) (p:=p) H;have b4:=tB (l:=l) (j:=j) (ver:=ver) (p:=p) H;have cG:=q_ (M:=M) (h:=h) (a:=a) (l:=l) (j:=j) (ver:=ver) (p:=p);rw[<-cG] at b4;clear cG;generalize db:cJ M h a l j ver p=N at*;have cq:=fun L=>b6 fj L;have c4:=fun L=>b6 bU L;have dF:=Ac (f:=hX) (j:=j) hi;have mN:=Ac (f:=hX) (j:=j) ao;have f6:=fun L=>iP N L;have j5:=fun L=>k7 N L;have eZ:=fun L=>e0 N L;have kk:=fun L=>kg N L;have eS:i<l.length:=(bn.1 hi).1;have gQ:k<l.length:=(bn.1 ao).1;have qU:decide (i<l.length)=true:=decide_eq_true eS;have wG:decide (k<l.length)=true:=decide_eq_true gQ;have wH:decide (l.length<=l.length+j.length)=true:=decide_eq_true (by omega);have eQ:=WH N;have t2:∀L:Mem,(N++L).take N.length=N:=fun L=>kI rfl L;have le:∀L:Mem,decide (N.length<=N.length+L.length)=true:=fun L=>decide_eq_true (by omega);simp only[o1,hX] at fj cq dF mN;refine bZ aCC (by simp[FX]) ?_;simp-implicitDefEqProofs (disch:=omega) only[go_sem,FX,eX,fj,bU,cq,c4,dF,mN,f6,j5,eZ,kk,qU,wG,wH,eB];refine fI (Wd x.1 y.1) ?_;rintro v rfl;simp-implicitDefEqProofs (disch:=omega) only[go_sem];refine cp (fun aW=>?_) (fun aW=>?_)
 . simp-implicitDefEqProofs (disch:=omega) only[go_sem,t2,b4]
   simp[vZ,aW]
 simp-implicitDefEqProofs (disch:=omega) only[go_sem,eX,cq,f6,eZ];refine fI (Wd y.1 x.1) ?_;rintro v rfl;simp-implicitDefEqProofs (disch:=omega) only[go_sem];refine cp (fun a9=>?_) (fun a9=>?_)
 . simp-implicitDefEqProofs (disch:=omega) only[go_sem,t2,b4]
   simp[vZ,aW,a9]
 simp-implicitDefEqProofs (disch:=omega) only[go_sem,f6,eZ,t2,b4];simp[vZ,aW,a9]
theorem Ob{M:Mem}{h a ver:Nat}{l j:List cb}{p:Int}(H:lg M h a){i k:Nat}{x y:cb}(hi:l[i]? =some x)(ao:l[k]? =some y):
 cj av vE [.ptr h 0,.int .i64 i,.int .i64 k] (cJ M h a l j ver p) (fun v ah=>v=.tuple []/\ah=cJ M h a ((l.set i y).set k x) j ver p):=by
 have fj:=u_ (l:=l) (j:=j) (ver:=ver) (p:=p) H;have bU:=tA (l:=l) (j:=j) (ver:=ver) (p:=p) H;have hlen:=q_ (M:=M) (h:=h) (a:=a) (l:=l) (j:=j) (ver:=ver) (p:=p);have eS:i<l.length:=(bn.1 hi).1;have gQ:k<l.length:=(bn.1 ao).1;have Q4:∀(q:Nat)(z:cb)(l:List cb),q<l.length->((l++j).map hX).set q (hX z)=(l.set q z++j).map hX:=fun q z l aG=>by
  rw[<-List.map_set,List.set_append,if_pos aG]
 have s1:(cJ M h a l j ver p).set a (.arr 4 (((l++j).map hX).set i (hX y)) ver 0)=cJ M h a (l.set i y) j ver p:=by
  rw[Q4 i y l eS,Tm H.ne (eO)]
 have ds:(cJ M h a (l.set i y) j ver p).set a (.arr 4 (((l.set i y++j).map hX).set k (hX x)) ver 0)=cJ M h a ((l.set i y).set k x) j ver p:=by
  rw[Q4 k x _ (by rw[eO];exact gQ),Tm H.ne (eO)]
 have aaf:=u_ (l:=l.set i y) (j:=j) (ver:=ver) (p:=p) H;have Kl:=tA (l:=l.set i y) (j:=j) (ver:=ver) (p:=p) H;have own:=tB (l:=(l.set i y).set k x) (j:=j) (ver:=ver) (p:=p) H;have Mn:=q_ (M:=M) (h:=h) (a:=a) (l:=(l.set i y).set k x) (j:=j) (ver:=ver) (p:=p);have dF:=Ac (f:=hX) (j:=j) hi;have mN:=Ac (f:=hX) (j:=j) ao;obtain⟨z,a7⟩:∃z,(l.set i y)[k]? =some z:=⟨(l.set i y)[k]'(by rw[eO];exact gQ),by simp⟩;have f6:=Ac (f:=hX) (j:=j) a7;have qU:decide (i<l.length)=true:=decide_eq_true eS;have wG:decide (k<l.length)=true:=decide_eq_true gQ;have wH:decide (l.length<=l.length+j.length)=true:=decide_eq_true (by omega);have eQ:List.take M.length (cJ M h a ((l.set i y).set k x) j ver p)=cJ M h a ((l.set i y).set k x) j ver p:=g1 (by rw[Mn];exact cF _);simp only[o1,hX,eO] at fj dF mN f6 s1 ds aaf;refine bZ aCE (by simp[FZ]) ?_;simp-implicitDefEqProofs (disch:=omega) only[go_sem,FZ,eX,fj,bU,dF,mN,f6,qU,wG,wH,s1,ds,Kl,eO];rw[hlen];exact⟨by rw[eQ];exact own,eQ⟩
end Go.aQ.C
namespace Go.aQ.C
open Go.aQ
def rY(x y:cb):Prop:=x.1.len<y.1.len∨(x.1.len=y.1.len/\(x.1.eb<y.1.eb∨(x.1.eb=y.1.eb/\x.2<y.2)))
def jp(x y:cb):Prop:=¬rY y x
theorem JD(x y:cb):vZ x y=true↔rY x y:=by
 simp only[vZ,yi,rY,Bool.or_eq_true,b_,lH,Bool.or_eq_false_iff,Bool.and_eq_false_iff,decide_eq_true_eq,decide_eq_false_iff_not];omega
theorem NW{x y:cb}(h:vZ x y=false):jp y x:=fun e=>by
 rw[<-JD,h] at e;cases e
theorem EE{x y z:cb}(U:jp x y)(af:jp y z):jp x z:=by
 unfold jp rY at*;omega
theorem EF{x y:cb}(h:rY x y):jp x y:=by
 unfold jp rY at*;omega
theorem ED(x:cb):jp x x:=by
 unfold jp rY;omega
def ng(l:List cb):Prop:=∀(i:Nat)(x y:cb),0<i->l[i]? =some x->l[(i -1)/2]? =some y->jp y x
def wn(l:List cb)(i:Nat):Prop:=(∀(j:Nat)(x y:cb),0<j->j≠i->l[j]? =some x->l[(j -1)/2]? =some y->jp y x)/\
 ∀(j:Nat)(x z:cb),0<i->0<j->(j -1)/2=i->l[j]? =some x->l[(i -1)/2]? =some z->jp z x
def uD(l:List cb)(i:Nat):Prop:=(∀(j:Nat)(x y:cb),0<j->(j -1)/2≠i->l[j]? =some x->l[(j -1)/2]? =some y->jp y x)/\
 ∀(j:Nat)(x z:cb),0<i->0<j->(j -1)/2=i->l[j]? =some x->l[(i -1)/2]? =some z->jp z x
def rP{α:Type}(l:List α)(i k:Nat)(x y:α):List α:=(l.set i y).set k x
theorem yq{α:Type}{l:List α}{i k:Nat}{x y:α}(hi:l[i]? =some x)(ao:l[k]? =some y)(q:Nat):(rP l i k x y)[q]? =if q=k then some x else if q=i then some y else l[q]? :=by
 have eS:=(bn.1 hi).1;have gQ:=(bn.1 ao).1;rw[rP,List.getElem?_set,List.getElem?_set,eO];by_cases U:q=k
 . subst U;rw[if_pos rfl,if_pos gQ,if_pos rfl]
 . rw[if_neg (gi U),if_neg U]
   by_cases af:q=i
   . subst af;rw[if_pos rfl,if_pos eS,if_pos rfl]
   . rw[if_neg (gi af),if_neg af]
theorem N_{α:Type}(l:List α)(i k:Nat)(x y:α):(rP l i k x y).length=l.length:=by simp[rP]
theorem Oa{α:Type}{l:List α}{i k:Nat}{x y:α}(hi:l[i]? =some x)(ao:l[k]? =some y)(z:α):z∈rP l i k x y↔z∈l:=by
 constructor
 . intro h
   obtain⟨q,aG⟩:=ij h;rw[yq hi ao] at aG;split at aG
   . cases aG;exact dO hi
   . split at aG
     . cases aG;exact dO ao
     . exact dO aG
 . intro h
   obtain⟨q,aG⟩:=ij h;by_cases U:q=i
   . subst U
     rw[hi] at aG;cases aG;exact dO (i:=k) (by rw[yq hi ao,if_pos rfl])
   . by_cases af:q=k
     . subst af
       rw[ao] at aG;cases aG;exact dO (i:=i) (by rw[yq hi ao,if_neg (gi U),if_pos rfl])
     . exact dO (i:=q) (by rw[yq hi ao,if_neg af,if_neg U];exact aG)
theorem aMK{l:List cb}{i:Nat}{x y:cb}(h:wn l i)(zu:0<i)(hi:l[i]? =some x)(ao:l[(i -1)/2]? =some y)(bw:rY x y):wn (rP l i ((i -1)/2) x y) ((i -1)/2):=by
 obtain⟨U,af⟩:=h;have g:=yq hi ao;generalize ax:(i -1)/2=p at*;have su:p≠i:=by omega
 refine⟨fun j u v ap xl hu aq=>?_,fun j u z ss ap xl hu a7=>?_⟩
 . rw[g,if_neg xl] at hu
   rw[g] at aq;by_cases ez:j=i
   . rw[if_pos ez] at hu;cases hu
     rw[ez,ax,if_pos rfl] at aq;cases aq;exact EF bw
   . rw[if_neg ez] at hu
     by_cases aG:(j -1)/2=p
     . rw[if_pos aG] at aq;cases aq
       have:=U j u y ap ez hu (by rw[aG];exact ao);exact EE (EF bw) this
     . rw[if_neg aG] at aq
       by_cases tO:(j -1)/2=i
       . rw[if_pos tO] at aq;cases aq
         exact af j u y zu ap tO hu ao
       . rw[if_neg tO] at aq
         exact U j u v ap ez hu aq
 . have C6:(p -1)/2≠p:=by omega
   have aGx:(p -1)/2≠i:=by omega
   rw[g,if_neg C6,if_neg aGx] at a7;have Ui:=U p y z ss su ao a7;rw[g] at hu;have aFU:j≠p:=by omega
   rw[if_neg aFU] at hu;by_cases ez:j=i
   . rw[if_pos ez] at hu;cases hu
     exact Ui
   . rw[if_neg ez] at hu
     exact EE Ui (U j u y ap ez hu (by rw[xl];exact ao))
theorem W9{l:List cb}{i:Nat}(h:wn l i)(aw:∀x y,0<i->l[i]? =some x->l[(i -1)/2]? =some y->jp y x):ng l:=fun j x y ap ab aD=>by
 by_cases ez:j=i
 . subst ez;exact aw x y ap ab aD
 . exact h.1 j x y ap ez ab aD
theorem aAO{l:List cb}{i k:Nat}{x y:cb}(h:uD l i)(mU:0<k)(gx:(k -1)/2=i)(hi:l[i]? =some x)(ao:l[k]? =some y)(sp:∀j z,0<j->(j -1)/2=i->l[j]? =some z->jp y z)(bw:rY y x):uD (rP l i k x y) k:=by
 obtain⟨U,af⟩:=h;have g:=yq hi ao;have cr:k≠i:=by omega
 refine⟨fun j u v ap xl hu aq=>?_,fun j u z aOp ap xl hu a7=>?_⟩
 . rw[g] at hu aq
   rw[if_neg xl] at aq;by_cases aG:(j -1)/2=i
   . rw[if_pos aG] at aq;cases aq
     by_cases zx:j=k
     . rw[if_pos zx] at hu;cases hu
       exact EF bw
     . rw[if_neg zx,if_neg (by omega)] at hu
       exact sp j u ap aG hu
   . rw[if_neg aG] at aq
     have zx:j≠k:=fun e=>aG (by rw[e];exact gx);rw[if_neg zx] at hu;by_cases ez:j=i
     . rw[if_pos ez] at hu;cases hu
       rw[ez] at aq;exact af k y v (by omega) mU gx ao aq
     . rw[if_neg ez] at hu
       exact U j u v ap aG hu aq
 . rw[gx,g,if_neg (gi cr),if_pos rfl] at a7
   cases a7;rw[g,if_neg (by omega),if_neg (by omega)] at hu;exact U j u y ap (by omega) hu (by rw[xl];exact ao)
theorem QW{l:List cb}{i:Nat}(h:uD l i)(aw:∀j x y,0<j->(j -1)/2=i->l[i]? =some x->l[j]? =some y->jp x y):ng l:=fun j x y ap ab aD=>by
 by_cases ez:(j -1)/2=i
 . rw[ez] at aD;exact aw j y x ap ez aD ab
 . exact h.1 j x y ap ez ab aD
theorem VX{l:List cb}(h:ng l){x:cb}(a4:l[0]? =some x):∀(i:Nat)(y:cb),l[i]? =some y->jp x y
 |0,y,aD=>by rw[a4] at aD;cases aD;exact ED _
 |i+1,y,aD=>by
  have bw:(i+1 -1)/2<l.length:=by have:=(bn.1 aD).1;omega
  have U:l[(i+1 -1)/2]? =some l[(i+1 -1)/2]:=gd bw;exact EE (VX h a4 _ _ U) (h (i+1) y _ (by omega) aD U)
 termination_by i=>i
end Go.aQ.C
namespace Go.aQ.C
open Go.aQ
theorem aLL{M:Mem}{h a ver:Nat}{l j:List cb}{p:Int}(H:lg M h a)(aj:l.length<=1000000000):
 cj av Dx [.ptr h 0] (cJ M h a l j ver p) (fun v ah=>v=.tuple []/\∃l',ah=cJ M h a l' j ver p/\l'.length=l.length/\(∀z,z∈l'↔z∈l)/\(uD l 0->ng l')):=by
 have fj:=fun l':List cb=>u_ (M:=M) (h:=h) (a:=a) (l:=l') (j:=j) (ver:=ver) (p:=p) H;have bU:=fun l':List cb=>tA (M:=M) (h:=h) (a:=a) (l:=l') (j:=j) (ver:=ver) (p:=p) H;have own:=fun l':List cb=>tB (M:=M) (h:=h) (a:=a) (l:=l') (j:=j) (ver:=ver) (p:=p) H;have hlen:=fun l':List cb=>q_ (M:=M) (h:=h) (a:=a) (l:=l') (j:=j) (ver:=ver) (p:=p);have eQ:=fun l':List cb=>kI (hlen l') [];simp only[fU] at eQ;simp only[o1] at fj;refine bZ aCD (by simp[FY]) ?_;simp-implicitDefEqProofs (disch:=omega) only[go_sem,FY,hlen];refine oC (fun m vs N=>∃(i:Nat)(l':List cb),m=l.length -i/\vs=[.ptr h 0,.int .i64 i]/\N=cJ M h a l' j ver p/\l'.length=l.length/\(∀z,z∈l'↔z∈l)/\i<=l.length/\(uD l 0->uD l' i)) l.length
  ⟨0,l,rfl,rfl,rfl,rfl,fun _=>Iff.rfl,fG _,id⟩ ?_;rintro m vs N ⟨i,l',rfl,rfl,rfl,ei,gy,kZ,f8⟩;have a6:(2*(i:Int)+1)=((2*i+1:Nat):Int):=by omega
 have cq:=fj l';have c4:=bU l';have dF:=own l';have mN:=eQ l';rw[ei] at cq;simp-implicitDefEqProofs (disch:=omega) only[go_sem,eX,cq,c4,a6];refine a5 (fun aW=>?_) (fun aW=>?_)
 . simp-implicitDefEqProofs (disch:=omega) only[go_sem,hlen,dF,mN]
   refine⟨l',rfl,ei,gy,fun a4=>QW (f8 a4) fun q x y aG vo _ aD=>?_⟩;have:=(bn.1 aD).1;omega
 have iW:2*i+1<l'.length:=by omega
 obtain⟨x,ab⟩:∃x,l'[i]? =some x:=⟨l'[i]'(by omega),by simp⟩;obtain⟨qw,zM⟩:∃y,l'[2*i+1]? =some y:=⟨l'[2*i+1],by simp⟩;have ba:(((2*i+1:Nat):Int)+1)=((2*i+2:Nat):Int):=by omega
 simp-implicitDefEqProofs (disch:=omega) only[go_sem,eX,cq,c4,ba];refine a5 (fun a9=>?_) (fun a9=>?_);rotate_left;have sp:∀q z,0<q->(q -1)/2=i->l'[q]? =some z->jp qw z:=fun q z aG vo a7=>by
  have:=(bn.1 a7).1;have e:q=2*i+1:=by omega
  subst e;rw[zM] at a7;cases a7;exact ED _
 have lU:(2*i+1 -1)/2=i:=by omega
 have mU:0<2*i+1:=by omega
 have tH:=zM;have g4:=iW;generalize 2*i+1=k at sp lU mU tH g4⊢;simp-implicitDefEqProofs (disch:=omega) only[go_sem];rotate_left;obtain⟨Et,Ht⟩:∃y,l'[2*i+2]? =some y:=⟨l'[2*i+2]'(by omega),by simp⟩;simp-implicitDefEqProofs (disch:=omega) only[go_sem,ba];refine ew (Ky H Ht zM) ?_;rintro v _ ⟨rfl,rfl⟩;simp-implicitDefEqProofs (disch:=omega) only[go_sem];refine cp (fun bN=>?_) (fun bN=>?_);have sp:∀q z,0<q->(q -1)/2=i->l'[q]? =some z->jp Et z:=fun q z aG vo a7=>by
  have e:q=2*i+1∨q=2*i+2:=by omega
  rcases e with rfl|rfl
  . rw[zM] at a7;cases a7;exact EF ((JD _ _).1 bN)
  . rw[Ht] at a7;cases a7;exact ED _
 have lU:(2*i+2 -1)/2=i:=by omega
 have mU:0<2*i+2:=by omega
 have g4:2*i+2<l'.length:=by omega
 simp-implicitDefEqProofs (disch:=omega) only[go_sem,ba];have tH:=Ht;generalize 2*i+2=k at sp lU mU tH g4⊢;rotate_left;have sp:∀q z,0<q->(q -1)/2=i->l'[q]? =some z->jp qw z:=fun q z aG vo a7=>by
  have e:q=2*i+1∨q=2*i+2:=by omega
  rcases e with rfl|rfl
  . rw[zM] at a7;cases a7;exact ED _
  . rw[Ht] at a7;cases a7;exact NW bN
 have lU:(2*i+1 -1)/2=i:=by omega
 have mU:0<2*i+1:=by omega
 simp-implicitDefEqProofs (disch:=omega) only[go_sem];have tH:=zM;have g4:=iW;generalize 2*i+1=k at sp lU mU tH g4⊢;rotate_left;all_goals
  refine ew (Ky H tH ab) ?_;rintro v _ ⟨rfl,rfl⟩;simp-implicitDefEqProofs (disch:=omega) only[go_sem];refine cp (fun c5=>?_) (fun c5=>?_);rotate_left
  . simp-implicitDefEqProofs (disch:=omega) only[go_sem,hlen,dF,mN]
    refine⟨l',rfl,ei,gy,fun a4=>QW (f8 a4) fun q u z aG vo hu a7=>?_⟩;rw[ab] at hu;cases hu;exact EE (NW c5) (sp q z aG vo a7)
  simp-implicitDefEqProofs (disch:=omega) only[go_sem];refine ew (Ob H ab tH) ?_;rintro v _ ⟨rfl,rfl⟩;simp-implicitDefEqProofs (disch:=omega) only[go_sem,hlen];refine yf (l.length -k) (by omega) ⟨k,rP l' i k x _,rfl,rfl,rfl,by rw[N_];exact ei,fun z=>(Oa ab tH z).trans (gy z),by omega,fun a4=>aAO (f8 a4) mU lU ab tH sp ((JD _ _).1 c5)⟩
end Go.aQ.C
namespace Go.aQ.C
open Go.aQ
mutual
theorem yu{n m:Nat}(h:n<=m):∀v:V,v.under n=true->v.under m=true
 |.ptr _ _,aq=>by simp only[V.under,decide_eq_true_eq] at aq⊢;omega
 |.fo _ _ _ _,aq=>by simp only[V.under,decide_eq_true_eq] at aq⊢;omega
 |.aX _ _ _ _,aq=>by simp only[V.under,decide_eq_true_eq] at aq⊢;omega
 |.map _,aq=>by simp only[V.under,decide_eq_true_eq] at aq⊢;omega
 |.fn _ da,aq=>by simp only[V.under] at aq⊢;exact wb h da aq
 |.agg cells,aq=>by simp only[V.under] at aq⊢;exact wb h cells aq
 |.tuple vs,aq=>by simp only[V.under] at aq⊢;exact wb h vs aq
 |.undef,_=>rfl
 |.bool _,_=>rfl
 |.int _ _,_=>rfl
 |.str _,_=>rfl
 |.dm,_=>rfl
 |.gu,_=>rfl
 |.jB,_=>rfl
 |.slice _ _,_=>rfl
 |.gC _,_=>rfl
 |.cN _,_=>rfl
 |.dH _ _,_=>rfl
theorem wb{n m:Nat}(h:n<=m):∀vs:List V,cS n vs=true->cS m vs=true
 |[],_=>rfl
 |v::vs,aq=>by
  simp only[cS,b_] at aq⊢;exact⟨yu h v aq.1,wb h vs aq.2⟩
end
theorem W5{n m:Nat}(h:n<=m):∀es:List (V×V),nb n es=true->nb m es=true
 |[],_=>rfl
 |(k,v)::es,aq=>by
  simp only[nb,b_] at aq⊢;exact⟨yu h v aq.1,W5 h es aq.2⟩
theorem ru{n m:Nat}(h:n<=m):∀M:Mem,cL n M=true->cL m M=true
 |[],_=>rfl
 |B::M,aq=>by
  simp only[cL,b_] at aq⊢;refine⟨?_,ru h M aq.2⟩;cases B with
  |box cells=>exact wb h cells aq.1
  |arr _ _ _ _=>rfl
  |map es=>exact W5 h es aq.1
  |vec cells _=>exact wb h cells aq.1
  |iter mid _ _=>simp only[a2.under,decide_eq_true_eq] at aq⊢;omega
  |dead=>rfl
theorem rt(n:Nat):∀M L:Mem,cL n (M++L)=(cL n M&&cL n L)
 |[],L=>by simp[cL]
 |B::M,L=>by simp[cL,rt n M L,Bool.and_assoc]
theorem lg.app{M:Mem}{h a:Nat}(H:lg M h a){L:Mem}(dh:cL (M.length+L.length) L=true):lg (M++L) h a:=
 ⟨by rw[dT];have:=H.aj;omega,by rw[dT];have:=H.AU;omega,H.ne,by
   rw[rt,dT,ru (Nat.le_add_right _ _) M H.own,dh];rfl⟩
theorem pY{M:Mem}{h a ver:Nat}{l j:List cb}{p:Int}(H:lg M h a)(L:Mem):cJ M h a l j ver p++L=cJ (M++L) h a l j ver p:=by
 rw[cJ,cJ,nN H.AU,nN (by rw[eO];exact H.aj)]
theorem Yk{M:Mem}{h a ver:Nat}{l j:List cb}{p:Int}(H:lg M h a):
 cj av Dw [.ptr h 0] (cJ M h a l j ver p) (fun v ah=>v=.int .i64 l.length/\ah=cJ M h a l j ver p):=by
 have fj:=u_ (l:=l) (j:=j) (ver:=ver) (p:=p) H;have bU:=tA (l:=l) (j:=j) (ver:=ver) (p:=p) H;have own:=tB (l:=l) (j:=j) (ver:=ver) (p:=p) H;have hlen:=q_ (M:=M) (h:=h) (a:=a) (l:=l) (j:=j) (ver:=ver) (p:=p);have eQ:=kI hlen [];simp only[fU] at eQ;simp only[o1] at fj;refine bZ aCA (by simp[FV]) ?_;simp-implicitDefEqProofs (disch:=omega) only[go_sem,FV,eX,wQ,fj,bU,hlen,own,eQ]
def ps(l:List cb):V:=match l with|[]=>.tuple [.agg [.int .i64 0,.int .i64 0,.int .i64 0],.bool false]|x::_=>.tuple [.agg x.1.cells,.bool true]
theorem O2{M:Mem}{h a ver:Nat}{l j:List cb}{p:Int}(H:lg M h a):
 cj av zT [.ptr h 0] (cJ M h a l j ver p) (fun v ah=>v=ps l/\ah=cJ M h a l j ver p):=by
 have own:=tB (l:=l) (j:=j) (ver:=ver) (p:=p) H;have hlen:=q_ (M:=M) (h:=h) (a:=a) (l:=l) (j:=j) (ver:=ver) (p:=p);have eQ:=fun L=>kI hlen L;have aD3:∀L:Mem,cL (M.length+L.length) L=true->cj av Dw [.ptr h 0] (cJ M h a l j ver p++L) (fun v ah=>v=.int .i64 l.length/\ah=cJ M h a l j ver p++L):=fun L dh=>by
  rw[pY H];exact Yk (H.app dh)
 have fj:=u_ (l:=l) (j:=j) (ver:=ver) (p:=p) H;have bU:=tA (l:=l) (j:=j) (ver:=ver) (p:=p) H;have cq:=fun L=>b6 fj L;have c4:=fun L=>b6 bU L;have f6:=fun L=>iP (cJ M h a l j ver p) L;have j5:=fun L=>k7 (cJ M h a l j ver p) L;have eZ:=fun L=>e0 (cJ M h a l j ver p) L;have kk:=fun L=>kg (cJ M h a l j ver p) L;simp only[hlen] at f6 j5 eZ kk;simp only[o1] at cq;have hle:decide (M.length<=M.length+2)=true:=decide_eq_true (by omega);refine bZ aCB (by simp[FW]) ?_;simp-implicitDefEqProofs (disch:=omega) only[go_sem,FW,hlen,eB];refine ew (aD3 _ (by simp[cL,a2.under,cS,V.under])) ?_;rintro v _ ⟨rfl,rfl⟩;simp-implicitDefEqProofs (disch:=omega) only[go_sem];refine a5 (fun g=>?_) (fun g=>?_)
 . have ag:l=[]:=List.length_eq_zero_iff.1 (by omega)
   subst ag;simp-implicitDefEqProofs (disch:=omega) only[go_sem,hlen,f6,eZ,kk,eQ,own,ps,hle]
 . cases l with
   |nil=>exact absurd rfl g
   |cons x l=>
    have dF:=Ac (f:=hX) (j:=j) (l:=x::l) (i:=0) rfl;have qU:decide (0<(x::l).length)=true:=rfl;have wH:decide ((x::l).length<=(x::l).length+j.length)=true:=decide_eq_true (by omega);simp only[hX] at dF;simp only[dz] at qU wH cq;simp-implicitDefEqProofs (disch:=omega) only[go_sem,eX,hlen,cq,c4,eZ,kk,eQ,own,ps,hle,qU,dp.cells,hX]
end Go.aQ.C
namespace Go.aQ.C
open Go.aQ
theorem VB{N:Mem}{a ver n k sz:Nat}{rows:List (List V)}{fz:Nat}(bk:N[a]? =some (.arr sz rows ver fz))(aK:n<=rows.length)(ao:k<=n):
 g7 sz (.aX a ver 0 n) none (some (.int .i64 (k:Int))) none N=some (.aX a ver 0 k):=by
 have d1:decide (0<=(k:Int))=true:=decide_eq_true (by omega);simp only[g7,bk,ix,d1,cond_true,lI,beq_self_eq_true,ev,decide_eq_true aK,fG,decide_true,decide_eq_true ao,cF,eR,Nat.sub_zero]
structure EK(l:List cb)(x:cb)(l':List cb):Prop where
 len:l'.length+1=l.length
 mem:∀z,z∈l->z=x∨z∈l'
 sub:∀z,z∈l'->z∈l
 min:∀z,z∈l->jp x z
 ax:ng l'
theorem ZU{M:Mem}{h a ver:Nat}{r j:List cb}{x:cb}{p:Int}(H:lg M h a)(aj:(x::r).length<=1000000000)(ax:ng (x::r)):
 cj av xK [.ptr h 0] (cJ M h a (x::r) j ver p) (fun v ah=>v=ps (x::r)/\∃l' j',ah=cJ M h a l' j' ver p/\EK (x::r) x l'):=by
 have hlen:=fun(l j:List cb)(M:Mem)=>q_ (M:=M) (h:=h) (a:=a) (l:=l) (j:=j) (ver:=ver) (p:=p);have LL:∀L:Mem,cL (M.length+L.length) L=true->cj av zT [.ptr h 0] (cJ M h a (x::r) j ver p++L) (fun v ah=>v=ps (x::r)/\ah=cJ M h a (x::r) j ver p++L):=fun L dh=>by
  rw[pY H];exact O2 (H.app dh)
 obtain⟨y,aD⟩:∃y,(x::r)[r.length]? =some y:=⟨(x::r)[r.length]'(by simp),by simp⟩;have a4:(x::r)[0]? =some x:=rfl;have aB:=yq a4 aD;have eF:=N_ (x::r) 0 r.length x y;have vi:=Oa a4 aD;generalize fa:rP (x::r) 0 r.length x y=cU at*;have xm:cU[r.length]? =some x:=by rw[aB,if_pos rfl]
 have CU:cU.length=r.length+1:=by rw[eF];rfl
 have T6:cU=cU.take r.length++[x]:=by
  calc cU=cU.take (r.length+1):=(g1 (by omega)).symm
   _=cU.take r.length++[x]:=by rw[hR,xm];rfl
 have LM:∀L:Mem,cL (M.length+L.length) L=true->cj av vE [.ptr h 0,.int .i64 0,.int .i64 (r.length:Int)] (cJ M h a (x::r) j ver p++L) (fun v ah=>v=.tuple []/\ah=cJ M h a cU j ver p++L):=fun L dh=>by
  rw[pY H,pY H,<-fa];exact Ob (H.app dh) a4 aD
 have Mm:(cU.take r.length).length=r.length:=by rw[iw];omega
 have aEi:∀L:Mem,cL (M.length+L.length) L=true->cj av Dx [.ptr h 0] (cJ M h a (cU.take r.length) (x::j) ver p++L) (fun v ah=>v=.tuple []/\∃l',ah=cJ M h a l' (x::j) ver p++L/\l'.length=(cU.take r.length).length/\(∀z,z∈l'↔z∈cU.take r.length)/\(uD (cU.take r.length) 0->ng l')):=fun L dh=>by
  rw[pY H];refine cj.mono (aLL (H.app dh) (by rw[Mm];simp only[dz] at aj;omega)) ?_;rintro v ah ⟨U,l',af,ay⟩;exact⟨U,l',by rw[pY H];exact af,ay⟩
 have aw:uD (cU.take r.length) 0:=by
  have get:∀q,q<r.length->0<q->(cU.take r.length)[q]? =(x::r)[q]? :=fun q aG a4=>by
   rw[hs aG,aB,if_neg (by omega),if_neg (by omega)]
  refine⟨fun q u v aG aOz hu aq=>?_,fun q u v SW=>absurd SW (by omega)⟩;have C8:q<r.length:=by have:=(bn.1 hu).1;omega
  rw[get q C8 aG] at hu;rw[get _ (by omega) (by omega)] at aq;exact ax q u v aG hu aq
 have cq:∀(l j:List cb)(L:Mem),(cJ M h a l j ver p++L)[h]? =some (.box [.dH jQ [],.aX a ver 0 l.length,.int .i64 p]):=fun l j L=>b6 (u_ H) L;have c4:∀(l j:List cb)(L:Mem),(cJ M h a l j ver p++L)[a]? =some (.arr 4 ((l++j).map hX) ver 0):=fun l j L=>b6 (tA H) L;have f6:=fun(l j:List cb) L=>iP (cJ M h a l j ver p) L;have j5:=fun(l j:List cb) L=>k7 (cJ M h a l j ver p) L;have eZ:=fun(l j:List cb) L=>e0 (cJ M h a l j ver p) L;have kk:=fun(l j:List cb) L=>kg (cJ M h a l j ver p) L;simp only[hlen] at f6 j5 eZ kk;have eQ:=fun(l j:List cb) L=>kI (hlen l j M) L;have own:=fun(l j:List cb)=>tB (l:=l) (j:=j) (ver:=ver) (p:=p) H;have hle:∀L:Mem,decide (M.length<=M.length+L.length)=true:=fun L=>decide_eq_true (by omega);have N5:∀L:Mem,g7 4 (.aX a ver 0 (r.length+1)) none (some (.int .i64 (r.length:Int))) none (cJ M h a cU j ver p++L)=some (.aX a ver 0 r.length):=fun L=>
  VB (c4 cU j L) (by rw[eD,dT];omega) (by omega);have st:∀L:Mem,(cJ M h a cU j ver p++L).set h (.box [.dH jQ [],.aX a ver 0 r.length,.int .i64 p])=cJ M h a (cU.take r.length) (x::j) ver p++L:=fun L=>by
  have e:=Tn (M:=M) (h:=h) (a:=a) (ver:=ver) (l:=cU) (j:=j) (p:=p) (l':=cU.take r.length) (j':=x::j) (p':=p) H.ne (by have:=congrArg (·++j) T6;simpa using this);rw[o1,Mm] at e;rw[nN (by rw[hlen];exact H.aj),e]
 have l2:(((r.length+1:Nat):Int) -1)=(r.length:Int):=by omega
 have aOQ:∀cells:List V,cS 0 cells=true->∀n,cS n cells=true:=fun cells ar n=>wb (fG _) cells ar;refine bZ R2 (by simp[zb]) ?_;simp-implicitDefEqProofs (disch:=omega) only[go_sem,zb,hlen];refine ew (LL _ (by simp[cL,a2.under,cS,V.under])) ?_;rintro v _ ⟨rfl,rfl⟩;simp-implicitDefEqProofs (disch:=omega) only[go_sem,hlen,ps,dp.cells,f6,j5,eB,eX,cq,c4,l2];refine ew (LM _ (by simp[cL,a2.under,cS,V.under])) ?_;rintro v _ ⟨rfl,rfl⟩;simp-implicitDefEqProofs (disch:=omega) only[go_sem,eX,cq,CU,N5,st];refine ew (aEi _ (by simp[cL,a2.under,cS,V.under])) ?_;rintro v _ ⟨rfl,l',rfl,bH,b8,dS⟩;simp-implicitDefEqProofs (disch:=omega) only[go_sem,hlen,f6,eZ,kk,eQ,own];refine⟨rfl,l',x::j,rfl,by rw[bH,Mm];rfl,fun z a7=>?_,fun z a7=>?_,fun z a7=>?_,dS aw⟩
 . have U:=(vi z).2 a7
   rw[T6,g_] at U;rcases U with U|U
   . exact .inr ((b8 z).2 U)
   . exact .inl (ht.1 U)
 . exact(vi z).1 (List.mem_of_mem_take ((b8 z).1 a7))
 . obtain⟨q,aG⟩:=ij a7
   exact VX ax a4 q z aG
end Go.aQ.C
namespace Go.aQ.C
open Go.aQ
theorem ZT{M:Mem}{h a ver:Nat}{j:List cb}{p:Int}(H:lg M h a):
 cj av xK [.ptr h 0] (cJ M h a [] j ver p) (fun v ah=>v=ps []/\ah=cJ M h a [] j ver p):=by
 have hlen:=fun(l j:List cb)(M:Mem)=>q_ (M:=M) (h:=h) (a:=a) (l:=l) (j:=j) (ver:=ver) (p:=p);have LL:∀L:Mem,cL (M.length+L.length) L=true->cj av zT [.ptr h 0] (cJ M h a [] j ver p++L) (fun v ah=>v=ps []/\ah=cJ M h a [] j ver p++L):=fun L dh=>by
  rw[pY H];exact O2 (H.app dh)
 have f6:=fun(l j:List cb) L=>iP (cJ M h a l j ver p) L;have j5:=fun(l j:List cb) L=>k7 (cJ M h a l j ver p) L;have eZ:=fun(l j:List cb) L=>e0 (cJ M h a l j ver p) L;have kk:=fun(l j:List cb) L=>kg (cJ M h a l j ver p) L;simp only[hlen] at f6 j5 eZ kk;have eQ:=fun(l j:List cb) L=>kI (hlen l j M) L;have own:=fun(l j:List cb)=>tB (l:=l) (j:=j) (ver:=ver) (p:=p) H;have hle:∀L:Mem,decide (M.length<=M.length+L.length)=true:=fun L=>decide_eq_true (by omega);refine bZ R2 (by simp[zb]) ?_;simp-implicitDefEqProofs (disch:=omega) only[go_sem,zb,hlen];refine ew (LL _ (by simp[cL,a2.under,cS,V.under])) ?_;rintro v _ ⟨rfl,rfl⟩;simp-implicitDefEqProofs (disch:=omega) only[go_sem,hlen,ps,f6,j5,eZ,kk,eB,eQ,own]
theorem aEn(n:Nat)(aK:n<=1000000000):dB .quo .none (.int .i64 (n:Int)) (.int .i64 2)=some (.int .i64 ((n/2:Nat):Int)):=by
 rw[KD _ _ _ _ (by omega)];have:Int.tdiv (n:Int) 2=((n/2:Nat):Int):=rfl;rw[this,qv _ (by omega) (by omega)]
theorem aEX{M:Mem}{h a ver:Nat}{l j:List cb}{p:Int}(H:lg M h a)(e:cb)(L:Mem)(aj:l.length<=1000000000):
 d0 false 4 32 (.aX a ver 0 l.length) (.slice [[.int .i64 e.1.node,.int .i64 e.1.len,.int .i64 e.1.eb,.int .i64 e.2]] .full) (cJ M h a l j ver p++L)=
  some (.aX a (ver+1) 0 (l.length+1),(cJ M h a l j ver p++L).set a (.arr 4 ((l++[e]).map hX) (ver+1) 0)):=by
 have U:(cJ M h a l j ver p++L)[a]? =some (.arr 4 ((l++j).map hX) ver 0):=b6 (tA H) L;have aw:decide ((l.length+1)*64<=2^48)=true:=decide_eq_true (by omega);cases j with
 |nil=>
  have af:(l.length==(l++([]:List cb)).length)=true:=by simp
  have ay:(l++([]:List cb)).length=l.length:=by simp
  simp only[d0,eJ,fq,dz,gZ,ev,beq_self_eq_true,cond_true,g3,U,eD,ay,eR,Nat.reduceMul,aw];simp[hX]
 |cons q j=>
  have af:(l.length==(l++q::j).length)=false:=by simp
  have ay:decide (l.length<=(l++q::j).length)=true:=decide_eq_true (by simp);simp only[d0,eJ,fq,dz,gZ,ev,beq_self_eq_true,cond_true,cond_false,g3,U,eD,af,ay,eR,Bool.and_false,Bool.false_and,Nat.reduceMul,aw,fG,decide_true];simp[hX]
structure Ki(l:List cb)(e:cb)(l':List cb):Prop where
 len:l'.length=l.length+1
 mem:∀z,z∈l'↔z∈l∨z=e
 ax:ng l->ng l'
theorem VF{M:Mem}{h a ver:Nat}{l0:List cb}{p:Int}{L:Mem}(H:lg M h a)(dh:cL (M.length+L.length) L=true)(aj:l0.length<=1000000000)(U:0<l0.length)(Q:Exit->aH->Mem->Prop)
 (gq:∀l',l'.length=l0.length->(∀z,z∈l'↔z∈l0)->(wn l0 (l0.length -1)->ng l')->∀(i:Int)(b:Bool),Q .normal [(0,.ptr h 0),(4,.int .i64 i),(44,.bool b)] (cJ M h a l' [] ver p++L)):
 dv av Qh Q [(0,.ptr h 0),(4,.int .i64 ((l0.length -1:Nat):Int))] (cJ M h a l0 [] ver p++L):=by
 have hlen:=fun(l j:List cb)(M:Mem)=>q_ (M:=M) (h:=h) (a:=a) (l:=l) (j:=j) (ver:=ver) (p:=p);have aDS:∀(l':List cb)(i k:Nat)(x y:cb),l'[i]? =some x->l'[k]? =some y->cj av xM [.ptr h 0,.int .i64 i,.int .i64 k] (cJ M h a l' [] ver p++L) (fun v ah=>v=.bool (vZ x y)/\ah=cJ M h a l' [] ver p++L):=fun l' i k x y hi ao=>by
  rw[pY H];exact Ky (H.app dh) hi ao
 have LM:∀(l':List cb)(i k:Nat)(x y:cb),l'[i]? =some x->l'[k]? =some y->cj av vE [.ptr h 0,.int .i64 i,.int .i64 k] (cJ M h a l' [] ver p++L) (fun v ah=>v=.tuple []/\ah=cJ M h a (rP l' i k x y) [] ver p++L):=fun l' i k x y hi ao=>by
  rw[pY H,pY H];exact Ob (H.app dh) hi ao
 simp-implicitDefEqProofs (disch:=omega) only[go_sem,↓br 19,↓br 20];refine oC (fun m vs N=>∃(i:Nat)(l':List cb),m=i/\vs=[.ptr h 0,.int .i64 i]/\N=cJ M h a l' [] ver p++L/\i<l0.length/\l'.length=l0.length/\(∀z,z∈l'↔z∈l0)/\(wn l0 (l0.length -1)->wn l' i)) (l0.length -1)
  ⟨l0.length -1,l0,rfl,rfl,rfl,by omega,rfl,fun _=>Iff.rfl,id⟩ ?_;rintro i vs N ⟨_,l',rfl,rfl,rfl,hi,ei,gy,f8⟩;simp-implicitDefEqProofs (disch:=omega) only[go_sem];refine a5 (fun aW=>?_) (fun aW=>?_);rotate_left
 . simp-implicitDefEqProofs (disch:=omega) only[go_sem]
   exact gq l' ei gy (fun a4=>W9 (f8 a4) fun x y SW=>by omega) _ _
 have a6:((i:Int) -1)=((i -1:Nat):Int):=by omega
 have ba:=aEn (i -1) (by omega);obtain⟨x,ab⟩:∃x,l'[i]? =some x:=⟨l'[i]'(by omega),by simp⟩;obtain⟨y,aD⟩:∃y,l'[(i -1)/2]? =some y:=⟨l'[(i -1)/2]'(by omega),by simp⟩;simp-implicitDefEqProofs (disch:=omega) only[go_sem,a6,ba];refine ew (aDS l' _ _ x y ab aD) ?_;rintro v _ ⟨rfl,rfl⟩;simp-implicitDefEqProofs (disch:=omega) only[go_sem];refine cp (fun a9=>?_) (fun a9=>?_);rotate_left
 . simp-implicitDefEqProofs (disch:=omega) only[go_sem]
   refine gq l' ei gy (fun a4=>W9 (f8 a4) fun u v _ hu aq=>?_) _ _;rw[ab] at hu;cases hu;rw[aD] at aq;cases aq;exact NW a9
 simp-implicitDefEqProofs (disch:=omega) only[go_sem,a6,ba];refine ew (LM l' _ _ x y ab aD) ?_;rintro v _ ⟨rfl,rfl⟩;simp-implicitDefEqProofs (disch:=omega) only[go_sem,a6,ba];refine yf ((i -1)/2) (by omega) ⟨(i -1)/2,rP l' i ((i -1)/2) x y,rfl,rfl,rfl,by omega,by rw[N_];exact ei,fun z=>(Oa ab aD z).trans (gy z),fun a4=>aMK (f8 a4) (by omega) ab aD ((JD _ _).1 a9)⟩
theorem aGz{l:List cb}(e:cb)(h:ng l):wn (l++[e]) ((l++[e]).length -1):=by
 have ag:(l++[e]).length -1=l.length:=by simp
 rw[ag];refine⟨fun q x y aG cr ab aD=>?_,fun q x z _ aG vo ab a7=>?_⟩
 . have U:=(bn.1 ab).1
   rw[dT] at U;have U:q<l.length:=by simp at U;omega
   rw[gh U] at ab;rw[gh (by omega)] at aD;exact h q x y aG ab aD
 . have U:=(bn.1 ab).1
   rw[dT] at U;simp at U;omega
theorem ZX{M:Mem}{h a ver:Nat}{l j:List cb}{p:Int}(x:dp)(H:lg M h a)(aj:l.length<=100000000)(ax:0<=p/\p<=1000000000):
 cj av xL [.ptr h 0,.agg x.cells] (cJ M h a l j ver p) (fun v ah=>v=.tuple []/\∃l',ah=cJ M h a l' [] (ver+1) (p+1)/\Ki l (x,p) l'):=by
 have hlen:=fun(l j:List cb)(ver:Nat)(p:Int)=>q_ (M:=M) (h:=h) (a:=a) (l:=l) (j:=j) (ver:=ver) (p:=p);have cq:∀(l j:List cb)(ver:Nat)(p:Int)(L:Mem),(cJ M h a l j ver p++L)[h]? =some (.box [.dH jQ [],.aX a ver 0 l.length,.int .i64 p]):=fun l j ver p L=>b6 (u_ H) L;have c4:∀(l j:List cb)(ver:Nat)(p:Int)(L:Mem),(cJ M h a l j ver p++L)[a]? =some (.arr 4 ((l++j).map hX) ver 0):=fun l j ver p L=>b6 (tA H) L;have f6:=fun L=>iP (cJ M h a l j ver p) L;have j5:=fun L=>k7 (cJ M h a l j ver p) L;have eZ:=fun L=>e0 (cJ M h a l j ver p) L;simp only[hlen] at f6 j5 eZ;have eQ:=fun(l:List cb) L=>kI (hlen l [] (ver+1) (p+1)) L;have own:=fun(l:List cb)=>tB (l:=l) (j:=[]) (ver:=ver+1) (p:=p+1) H;have hle:∀L:Mem,decide (M.length<=M.length+L.length)=true:=fun L=>decide_eq_true (by omega);have iS:=fun L=>aEX (j:=j) (ver:=ver) (p:=p) H (x,p) L (show l.length<=1000000000 by omega);have o5:∀(L:Mem)(A:a2),((cJ M h a l j ver p++L).set a A)[h]? =some (.box [.dH jQ [],.aX a ver 0 l.length,.int .i64 p]):=fun L A=>by
  rw[dx H.ne.symm,cq]
 have cU:(l++[(x,p)]).length=l.length+1:=by simp
 have bh:∀L:Mem,((cJ M h a l j ver p++L).set a (.arr 4 ((l++[(x,p)]).map hX) (ver+1) 0)).set h (.box [.dH jQ [],.aX a (ver+1) 0 (l.length+1),.int .i64 p])=cJ M h a (l++[(x,p)]) [] (ver+1) p++L:=fun L=>by
  have e:=aEY M h a l j ver p (.arr 4 ((l++[(x,p)]).map hX) (ver+1) 0) (o1 a (ver+1) (l.length+1) p) H.ne;rw[nN (by rw[hlen];exact H.AU),nN (by rw[eO,hlen];exact H.aj)];have ba:cJ M h a (l++[(x,p)]) [] (ver+1) p=(M.set a (.arr 4 ((l++[(x,p)]).map hX) (ver+1) 0)).set h (o1 a (ver+1) (l.length+1) p):=by rw[cJ,fU,cU]
  rw[ba];exact congrArg (·++L) e
 have rk:∀L:Mem,(cJ M h a (l++[(x,p)]) [] (ver+1) p++L).set h (.box [.dH jQ [],.aX a (ver+1) 0 (l.length+1),.int .i64 (p+1)])=cJ M h a (l++[(x,p)]) [] (ver+1) (p+1)++L:=fun L=>by
  have e:=Tn (M:=M) (h:=h) (a:=a) (ver:=ver+1) (l:=l++[(x,p)]) (j:=[]) (p:=p) (l':=l++[(x,p)]) (j':=[]) (p':=p+1) H.ne rfl;rw[o1,cU] at e;rw[nN (by rw[hlen];exact H.aj),e]
 have a6:(((l.length+1:Nat):Int) -1)=(((l++[(x,p)]).length -1:Nat):Int):=by rw[cU];omega
 refine bZ R3 (by simp[zc]) ?_;simp-implicitDefEqProofs (disch:=omega) only[go_sem,zc,hlen,dp.cells,eX,wQ,cq,c4,eZ,iS,o5,bh,rk,a6];rw[show l.length+1 -1=(l++[(x,p)]).length -1 by rw[cU]];refine VF (l0:=l++[(x,p)]) (L:=[.box x.cells]) H (by simp[dp.cells]<;>simp[cL,a2.under,cS,V.under]) (by rw[cU];omega) (by rw[cU];omega) _ fun l' bH b8 dS i b=>?_;simp-implicitDefEqProofs (disch:=omega) only[go_sem,hlen,eQ,own];exact⟨l',rfl,by rw[bH,cU],fun z=>by rw[b8];simp,fun a4=>dS (aGz _ a4)⟩
theorem ZW{M:Mem}{h:Nat}(x:dp)(bb:M[h]? =some (.box [.dH jQ [],.slice [] .nil,.int .i64 0]))(e1:cL M.length M=true):
 cj av xL [.ptr h 0,.agg x.cells] M (fun v ah=>v=.tuple []/\ah=cJ (M++[.box x.cells,.dead]) h (M.length+1) [(x,0)] [] 0 1):=by
 have ce:h<M.length:=(bn.1 bb).1;have H:lg (M++[.box x.cells,.dead]) h (M.length+1):=⟨by simp;omega,by simp,by omega,by
  rw[rt,dT,ru (Nat.le_add_right _ _) M e1];simp[cL,a2.under,dp.cells,cS,V.under]⟩;have cq:=fun L=>b6 bb L;have eZ:=fun L=>e0 M L;have eU:d0 false 4 32 (.slice [] .nil) (.slice [[.int .i64 x.node,.int .i64 x.len,.int .i64 x.eb,.int .i64 0]] .full) (M++[.box [.int .i64 x.node,.int .i64 x.len,.int .i64 x.eb]])=
  some (.aX (M.length+1) 0 0 1,M++[.box [.int .i64 x.node,.int .i64 x.len,.int .i64 x.eb],.arr 4 [[.int .i64 x.node,.int .i64 x.len,.int .i64 x.eb,.int .i64 0]] 0 0]):=by
  simp[d0,eJ,g3,fq]
 have eV:∀(L:Mem)(B:a2),(M++L).set h B=M.set h B++L:=fun L B=>nN ce L B;have gr:∀(L:Mem)(B:a2),(M.set h B++L)[h]? =some B:=fun L B=>b6 (eC ce) L;have aGT:∀(L:Mem)(A B:a2),(M.set h A++L).set h B=M.set h B++L:=fun L A B=>by rw[nN (by rw[eO];exact ce),List.set_set]
 have aE9:∀(B:a2)(L:Mem),(M.set h B++L)[M.length+1]? =L[1]? :=fun B L=>by
  have:=iP (M.set h B) L 1;rwa [eO] at this
 have CP:M.set h (.box [.dH jQ [],.aX (M.length+1) 0 0 1,.int .i64 1])++[.box [.int .i64 x.node,.int .i64 x.len,.int .i64 x.eb],.arr 4 [[.int .i64 x.node,.int .i64 x.len,.int .i64 x.eb,.int .i64 0]] 0 0]=cJ (M++[.box x.cells,.dead]) h (M.length+1) [(x,0)] [] 0 1:=by
  have e:=k7 M [a2.box x.cells,.dead] 1 (.arr 4 (([(x,(0:Int))]++[]).map hX) 0 0);rw[cJ,e,nN ce];rfl
 have h0:(((1:Nat):Int) -1)=(([(x,(0:Int))].length -1:Nat):Int):=rfl;have g9:((0:Int)+1)=1:=rfl;refine hx R3 (by simp[zc]) ?_;simp only[hq];simp-implicitDefEqProofs (disch:=omega) only[go_sem,zc,dp.cells,eX,wQ,cq,eZ,eU,eV,gr,aGT,aE9,g9];have key:=fun Q gq=>VF (l0:=[(x,0)]) (L:=[]) (ver:=0) (p:=1) H rfl (by simp) (by simp) Q gq;simp only[fU] at key;rw[h0,CP];refine key _ fun l' bH b8 dS i b=>?_;have ag:l'=[(x,0)]:=by
  obtain⟨z,rfl⟩:=List.length_eq_one_iff.1 bH;have:=(b8 z).1 (by simp);rw[ht] at this;rw[this]
 subst ag;simp-implicitDefEqProofs (disch:=omega) only[go_sem,dp.cells]
theorem Yq{M:Mem}:cj av HX [.dH jQ []] M (fun v ah=>v=.ptr M.length 0/\ah=M++[.box [.dH jQ [],.slice [] .nil,.int .i64 0]]):=by
 have a6:dB .eql .fn (.dH jQ []) .gu=some (.bool false):=rfl;refine hx aCF (by simp[F0]) ?_;simp only[hq];simp-implicitDefEqProofs (disch:=omega) only[go_sem,F0,a6]
end Go.aQ.C
namespace Go.aQ.C
open Go.aQ
structure Edge where
 src:Int
 dst:Int
 w:Int
def Edge.row(e:Edge):List V:=[.int .i64 e.src,.int .i64 e.dst,.int .i64 e.w]
def Edge.jR(e:Edge)(N:Nat):Prop:=(0<=e.src/\e.src<N)/\(0<=e.dst/\e.dst<N)/\1<=e.w/\e.w<=14400
theorem U3{M:Mem}(N i:Int)(hi:0<=i/\i<N)(bb:M[0]? =some (.box [.int .i64 N]))(e1:cL M.length M=true):
 cj av z0 [.int .i64 i,.ptr 0 0] M (fun v ah=>v=.bool false/\ah=M):=by
 have eQ:=WH M;refine bZ aC0 (by simp[Gd]) ?_;simp-implicitDefEqProofs (disch:=omega) only[go_sem,Gd];refine a5 (fun h=>?_) (fun _=>?_)
 . omega
 have U:decide (N<=i)=false:=decide_eq_false (by omega);simp-implicitDefEqProofs (disch:=omega) only[go_sem,bb,U,eQ,e1]
theorem aLJ(l:List Edge)(c:c3)(N:Nat)(db:N<=64)(ag:∀e∈l,e.jR N)(hlen:l.length<=4096):
 bQ av IB [.int .i64 N,.slice (l.map Edge.row) c,.slice [] .nil] (fun v=>v=.int .i64 0):=by
 refine bZ aC1 (by simp[Gc]) ?_;simp-implicitDefEqProofs (disch:=omega) only[go_sem,Gc];refine a5 (fun h=>?_) (fun _=>?_)
 . omega
 simp-implicitDefEqProofs (disch:=omega) only[go_sem];refine a5 (fun h=>?_) (fun _=>?_)
 . omega
 simp-implicitDefEqProofs (disch:=omega) only[go_sem];refine a5 (fun h=>?_) (fun _=>?_)
 . omega
 simp-implicitDefEqProofs (disch:=omega) only[go_sem];refine ek l (fun i vs M=>vs=[.slice [] .nil,.fn z0 [.ptr 0 0],.slice (l.map Edge.row) c,.int .i64 l.length,.int .i64 i]/\M=[.box [.int .i64 N]]) ⟨rfl,rfl⟩ ?_ ?_
 . rintro i e vs M he hi aw ⟨rfl,rfl⟩
   obtain⟨U,af,ay,be⟩:=ag e (dO he);simp-implicitDefEqProofs (disch:=omega) only[go_sem,aw,he,Edge.row];refine ew (U3 N e.src U rfl (by simp[cL,a2.under,cS,V.under])) ?_;rintro v _ ⟨rfl,rfl⟩;simp-implicitDefEqProofs (disch:=omega) only[go_sem];refine ew (U3 N e.dst af rfl (by simp[cL,a2.under,cS,V.under])) ?_;rintro v _ ⟨rfl,rfl⟩;simp-implicitDefEqProofs (disch:=omega) only[go_sem];refine a5 (fun h=>?_) (fun _=>?_)
   . omega
   simp-implicitDefEqProofs (disch:=omega) only[go_sem];refine a5 (fun h=>?_) (fun _=>?_)
   . omega
   simp-implicitDefEqProofs (disch:=omega) only[go_sem];exact dC hi rfl ⟨rfl,rfl⟩
 rintro vs M ⟨rfl,rfl⟩;simp-implicitDefEqProofs (disch:=omega) only[go_sem,dg];refine gg 0 (fun i vs M=>vs=[.fn z0 [.ptr 0 0],.slice [] .nil,.int .i64 0,.int .i64 i]/\M=[.box [.int .i64 N]]) ⟨rfl,rfl⟩ ?_ ?_
 . rintro i vs M hi
   omega
 rintro vs M ⟨rfl,rfl⟩;have a7:decide (((0:Nat):Int)<0)=false:=rfl;simp-implicitDefEqProofs (disch:=omega) only[go_sem,a7]
def i7(x:dp):List V:=[.int .i64 x.node,.int .i64 x.len,.int .i64 x.eb]
theorem Nd{zero:List V}{sz bytes n:Nat}{M:Mem}(aK:n<=1000)(aj:bytes<=1000):m1 zero sz bytes (.int .i64 (n:Int)) (.int .i64 (n:Int)) M=some (.aX M.length 0 0 n,M++[.arr sz (fV n zero) 0 0]):=by
 have U:(n:Int)*(bytes:Int)<=1000*1000:=Int.mul_le_mul (by omega) (by omega) (by omega) (by omega);have bU:decide (0<=(n:Int))=true:=decide_eq_true (by omega);have b4:decide ((n:Int)<=(n:Int))=true:=decide_eq_true (by omega);have cG:decide ((n:Int)*(bytes:Int)<=2^48)=true:=decide_eq_true (by omega);have dl:decide ((n:Int)<2^62)=true:=decide_eq_true (by omega);simp only[m1,bU,b4,cG,dl,lI,eR,cond_true]
theorem Li{α:Type}{l:List α}{f:α->List V}{z:List V}{i:Nat}{x:α}(h:l[i]? =some x):((l.take i).map f++fV (l.length -i) z).set i (f x)=(l.take (i+1)).map f++fV (l.length -(i+1)) z:=by
 have hi:=(bn.1 h).1;rw[List.set_append,if_neg (by simp;omega),show l.length -i=(l.length -(i+1))+1 by omega,List.replicate_succ,eD,iw,Nat.min_eq_left (by omega),mH,List.set_cons_zero,hR,h];simp
theorem Lh{α:Type}(l:List α)(f:α->List V)(z:List V){i:Nat}(h:i<=l.length):((l.take i).map f++fV (l.length -i) z).length=l.length:=by
 simp;omega
theorem Lg{α:Type}{l:List α}{f:α->List V}{z:List V}{i:Nat}(h:i<l.length):((l.take i).map f++fV (l.length -i) z)[i]? =some z:=by
 rw[jX (by simp;omega),List.getElem?_replicate,if_pos (by simp;omega)]
theorem aIl(l:List dp)(c:c3)(ag:l.length<=64):bQ av ID [.slice (l.map i7) c] (fun v=>v=.slice (l.map fun x=>[.int .i64 x.len]) .cv):=by
 have pa:=fun M=>Nd (zero:=[.int .i64 0]) (sz:=1) (bytes:=8) (n:=l.length) (M:=M) (by omega) (by omega);refine bZ aC3 (by simp[Gf]) ?_;simp-implicitDefEqProofs (disch:=omega) only[go_sem,Gf,pa];refine ek l (fun i vs M=>vs=[.aX 0 0 0 l.length,.slice (l.map i7) c,.int .i64 l.length,.int .i64 i]/\M=[.arr 1 ((l.take i).map (fun x=>[.int .i64 x.len])++fV (l.length -i) [.int .i64 0]) 0 0]) ⟨rfl,by simp⟩ ?_ ?_
 . rintro i x vs M ab hi aw ⟨rfl,rfl⟩
   have bU:=Lh l (fun x:dp=>[V.int .i64 x.len]) [.int .i64 0] (i:=i) (by omega);have b4:=Lg (l:=l) (f:=fun x:dp=>[V.int .i64 x.len]) (z:=[.int .i64 0]) hi;have cG:=Li (f:=fun x:dp=>[V.int .i64 x.len]) (z:=[.int .i64 0]) ab;have dl:decide (i<l.length)=true:=decide_eq_true hi;simp-implicitDefEqProofs (disch:=omega) only[go_sem,aw,ab,i7,bU,b4,cG,dl];exact dC hi rfl ⟨rfl,rfl⟩
 rintro vs M ⟨rfl,rfl⟩;simp-implicitDefEqProofs (disch:=omega) only[go_sem,dg];rw[aAX];have a7:(l.take l.length).map (fun x:dp=>[V.int .i64 x.len])++fV (l.length -l.length) [V.int .i64 0]=l.map fun x=>[.int .i64 x.len]:=by simp
 rw[a7];have aC:fu [.arr 1 (l.map fun x=>[V.int .i64 x.len]) 0 0] 0 20 (.aX 0 0 0 l.length)=some (.slice (l.map fun x=>[.int .i64 x.len]) .cv):=by
  have:=zf (M:=[.arr 1 (l.map fun x:dp=>[V.int .i64 x.len]) 0 0]) (base:=0) (n:=19) (id:=0) (ver:=0) (start:=0) (len:=l.length) rfl rfl (by simp);rw[l9,g1 (by simp)] at this;exact this
 show lL (fu [.arr 1 (l.map fun x=>[V.int .i64 x.len]) 0 0] 0 20 (.aX 0 0 0 l.length)) _;rw[aC];exact⟨by simp[V.under,cL],rfl,rfl,rfl⟩
end Go.aQ.C
namespace Go.aQ.C
open Go.aQ
section
variable{α:Type}[DecidableEq α]{c:fl}{cE:α->V}
def hW(x:α)(v:V):List (α×V)->List (α×V)
 |[]=>[(x,v)]
 |e::l=>if x=e.1 then(x,v)::l else e::hW x v l
theorem UQ(h:j0 c cE)(x:α)(v:V):∀l:List (α×V),oi c (cE x) v (cC cE l)=cC cE (hW x v l)
 |[]=>rfl
 |e::l=>by
  show(bif (hV c (cE x) (cE e.1)).getD false then(cE x,v)::cC cE l else(cE e.1,e.2)::oi c (cE x) v (cC cE l))=_;rw[UQ h x v l,h.eq,hW];by_cases ab:x=e.1
  . rw[if_pos ab,decide_eq_true ab];rfl
  . rw[if_neg ab,decide_eq_false ab];rfl
theorem Ol(h:j0 c cE)(x:α){v:V}(l:List (α×V))(aq:v.iA=true):nR c (cE x) v (cC cE l)=some (cC cE (hW x v l)):=by
 simp only[nR,h.key,z7 h,aq,eR,cond_true,UQ h x v l]
theorem u0(x y:α)(v:V):∀l:List (α×V),fR y (hW x v l)=if y=x then some v else fR y l
 |[]=>by
  by_cases h:y=x
  . subst h;simp[hW,fR]
  . simp[hW,fR,h]
 |e::l=>by
  have bq:=u0 x y v l;unfold fR at bq⊢;rw[hW];by_cases ab:x=e.1
  . rw[if_pos ab,List.find?_cons,List.find?_cons]
    by_cases h:y=x
    . subst h;rw[if_pos rfl];simp
    . have af:¬y=e.1:=fun q=>h (q.trans ab.symm)
      simp only[decide_eq_false h,decide_eq_false af,if_neg h]
  . rw[if_neg ab,List.find?_cons,List.find?_cons]
    by_cases h:y=e.1
    . have af:¬y=x:=fun q=>ab (q.symm.trans h)
      simp only[decide_eq_true h,if_neg af]
    . simp only[decide_eq_false h]
      exact bq
theorem JW{n:Nat}(x:α){v:V}(aq:v.under n=true):∀l:List (α×V),(∀e∈l,e.2.under n=true)->∀e∈hW x v l,e.2.under n=true
 |[],_,e,he=>by simp[hW] at he;subst he;exact aq
 |q::l,h,e,he=>by
  rw[hW] at he;split at he
  . rcases jm.1 he with rfl|he
    . exact aq
    . exact h e (by simp[he])
  . rcases jm.1 he with rfl|he
    . exact h _ (by simp)
    . exact JW x aq l (fun e he=>h e (by simp[he])) e he
end
def gp(k:Int)(l:List Edge):List Edge:=l.filter fun e=>decide (e.src=k)
theorem sb(k:Int)(l:List Edge)(e:Edge):gp k (l++[e])=if e.src=k then gp k l++[e] else gp k l:=by
 rw[gp,List.filter_append];by_cases h:e.src=k<;>simp[gp,h]
structure pF(M:Mem)(mp:List (Int×V))(l:List Edge):Prop where
 mapA:M[0]? =some (.map (cC iY mp))
 x_:∀k,fR k mp=none->gp k l=[]
 v5:∀k v,fR k mp=some v->∃a ver,v=.aX a ver 0 (gp k l).length/\M[a]? =some (.arr 3 ((gp k l).map Edge.row) ver 0)
 inj:∀k dj a ver n k8 x7,fR k mp=some (.aX a ver 0 n)->fR dj mp=some (.aX a k8 0 x7)->k=dj
 Az:∀e∈mp,e.2.under M.length=true
 own:cL M.length M=true
theorem aJs{M:Mem}{mp:List (Int×V)}{l:List Edge}(h:pF M mp l)(cells:List V)(ar:cS 0 cells=true):pF (M++[a2.box cells]) mp l:=
 ⟨b6 h.mapA _,h.x_,fun k v ao=>by
   obtain⟨a,ver,U,af⟩:=h.v5 k v ao;exact⟨a,ver,U,b6 af _⟩,h.inj,fun e he=>yu (by simp) _ (h.Az e he),by
   rw[rt,dT,ru (Nat.le_add_right _ _) M h.own];simp[cL,a2.under,wb (fG _) cells ar]⟩
theorem aJu{M:Mem}{mp:List (Int×V)}{l:List Edge}(h:pF M mp l)(e:Edge)(aK:fR e.src mp=none):
 pF ((M++[a2.arr 3 [e.row] 0 0]).set 0 (.map (cC iY (hW e.src (.aX M.length 0 0 1) mp)))) (hW e.src (.aX M.length 0 0 1) mp) (l++[e]):=by
 have a4:0<M.length:=(bn.1 h.mapA).1;have bk:∀{a:Nat}{B:a2},a≠0->M[a]? =some B->((M++[a2.arr 3 [e.row] 0 0]).set 0 (.map (cC iY (hW e.src (.aX M.length 0 0 1) mp))))[a]? =some B:=fun bk bY=>by
  rw[dx bk.symm];exact b6 bY _
 have cr:∀k a ver n,fR k mp=some (.aX a ver 0 n)->a≠0/\a<M.length:=fun k a ver n ao=>by
  obtain⟨du,k8,U,af⟩:=h.v5 k _ ao;cases U;refine⟨fun e=>?_,(bn.1 af).1⟩;rw[e,h.mapA] at af;cases af
 have p7:∀q∈hW e.src (.aX M.length 0 0 1) mp,q.2.under (M.length+1)=true:=JW _ (by simp[V.under]) _ fun q aG=>yu (by omega) _ (h.Az q aG);refine⟨?_,fun k ao=>?_,fun k v ao=>?_,fun k dj a ver n k8 x7 ao iV=>?_,fun q aG=>?_,?_⟩
 . rw[eC (by simp)]
 . rw[u0] at ao
   split at ao
   . cases ao
   . rename_i sq
     rw[sb,if_neg (fun q=>sq q.symm)];exact h.x_ k ao
 . rw[u0] at ao
   split at ao
   . rename_i he
     cases ao;subst he;refine⟨M.length,0,?_,?_⟩
     . rw[sb,if_pos rfl,h.x_ _ aK];rfl
     . rw[dx (by omega),jX (by omega),mH,sb,if_pos rfl,h.x_ _ aK];rfl
   . rename_i sq
     obtain⟨a,ver,U,af⟩:=h.v5 k v ao;subst U;refine⟨a,ver,?_,?_⟩
     . rw[sb,if_neg (fun q=>sq q.symm)]
     . rw[sb,if_neg (fun q=>sq q.symm)]
       exact bk (cr _ _ _ _ ao).1 af
 . rw[u0] at ao iV
   split at ao<;>split at iV
   . rename_i a6 ba;exact a6.trans ba.symm
   . cases ao;have:=(cr _ _ _ _ iV).2;omega
   . cases iV;have:=(cr _ _ _ _ ao).2;omega
   . exact h.inj _ _ _ _ _ _ _ ao iV
 . rw[eO,dT];exact p7 q aG
 . rw[eO,dT]
   refine DX ?_ (by simp only[a2.under];exact v_ _ _ p7) 0;rw[rt,ru (Nat.le_add_right _ _) M h.own];rfl
theorem aJv{M:Mem}{mp:List (Int×V)}{l:List Edge}(h:pF M mp l)(e:Edge){a ver:Nat}(aK:fR e.src mp=some (.aX a ver 0 (gp e.src l).length)):
 pF ((M.set a (.arr 3 ((gp e.src l++[e]).map Edge.row) (ver+1) 0)).set 0 (.map (cC iY (hW e.src (.aX a (ver+1) 0 ((gp e.src l).length+1)) mp)))) (hW e.src (.aX a (ver+1) 0 ((gp e.src l).length+1)) mp) (l++[e]):=by
 have a4:0<M.length:=(bn.1 h.mapA).1;have cr:∀k a ver n,fR k mp=some (.aX a ver 0 n)->a≠0/\a<M.length:=fun k a ver n ao=>by
  obtain⟨du,k8,U,af⟩:=h.v5 k _ ao;cases U;refine⟨fun e=>?_,(bn.1 af).1⟩;rw[e,h.mapA] at af;cases af
 obtain⟨LO,kq⟩:=cr _ _ _ _ aK;have p7:∀q∈hW e.src (.aX a (ver+1) 0 ((gp e.src l).length+1)) mp,q.2.under M.length=true:=JW _ (by simp[V.under];exact kq) _ h.Az;refine⟨?_,fun k ao=>?_,fun k v ao=>?_,fun k dj b yx n k8 x7 ao iV=>?_,fun q aG=>?_,?_⟩
 . rw[eC (by rw[eO];exact a4)]
 . rw[u0] at ao
   split at ao
   . cases ao
   . rename_i sq
     rw[sb,if_neg (fun q=>sq q.symm)];exact h.x_ k ao
 . rw[u0] at ao
   split at ao
   . rename_i he
     cases ao;subst he;refine⟨a,ver+1,?_,?_⟩
     . rw[sb,if_pos rfl,dT];rfl
     . rw[dx LO.symm,eC kq,sb,if_pos rfl]
   . rename_i sq
     obtain⟨b,yx,U,af⟩:=h.v5 k v ao;subst U;refine⟨b,yx,?_,?_⟩
     . rw[sb,if_neg (fun q=>sq q.symm)]
     . have pU:=(cr _ _ _ _ ao).1
       have hg:b≠a:=fun q=>by subst q;exact sq (h.inj _ _ _ _ _ _ _ ao aK)
       rw[sb,if_neg (fun q=>sq q.symm),dx pU.symm,dx hg.symm];exact af
 . rw[u0] at ao iV
   split at ao<;>split at iV
   . rename_i a6 ba;exact a6.trans ba.symm
   . rename_i a6 ba;cases ao;exact absurd (h.inj _ _ _ _ _ _ _ iV aK) ba
   . rename_i a6 ba;cases iV;exact absurd (h.inj _ _ _ _ _ _ _ ao aK) a6
   . exact h.inj _ _ _ _ _ _ _ ao iV
 . rw[eO,eO];exact p7 q aG
 . rw[eO,eO]
   exact DX (DX h.own rfl a) (by simp only[a2.under];exact v_ _ _ p7) 0
theorem aJw(l:List Edge)(c:c3)(hlen:l.length<=4096):
 cj av IE [.slice (l.map Edge.row) c,.bool false] [] (fun v ah=>v=.map 0/\∃mp,pF ah mp l):=by
 refine hx aC5 (by simp[Gh]) ?_;simp only[hq];simp-implicitDefEqProofs (disch:=omega) only[go_sem,Gh];refine ek l (fun i vs M=>∃mp,pF M mp (l.take i)/\vs=[.bool false,.map 0,.slice (l.map Edge.row) c,.int .i64 l.length,.int .i64 i]) ⟨[],⟨rfl,(fun _ _=>rfl),(fun k v h=>by cases h),(fun _ _ _ _ _ _ _ h=>by cases h),(fun e he=>by cases he),rfl⟩,rfl⟩ ?_ ?_;rotate_left
 . rintro vs M ⟨mp,db,rfl⟩
   rw[g0] at db;simp-implicitDefEqProofs (disch:=omega) only[go_sem,dg];exact⟨mp,db⟩
 rintro i e vs M he hi aw ⟨mp,db,rfl⟩;have aT:l.take (i+1)=l.take i++[e]:=by rw[hR,he];rfl
 have aB:=aJs db e.row rfl;have eZ:=fun L=>e0 M L;have kk:=fun L=>kg M L;have gS:(gp e.src (l.take i)).length<=4096:=jH (List.length_filter_le _ _) (by rw[iw];omega);have ks:nF .int (.slice [] .nil) false (.int .i64 e.src) (cC iY mp)=some (match fR e.src mp with|some v=>v|none=>.slice [] .nil):=z_ vH _ _ _ _;have CY:=aB.mapA;simp only[Edge.row] at CY;cases ao:fR e.src mp with
 |none=>
  have aK:=aJu aB e ao;have eU:d0 false 3 24 (.slice [] .nil) (.slice [[.int .i64 e.src,.int .i64 e.dst,.int .i64 e.w]] .full) (M++[a2.box [.int .i64 e.src,.int .i64 e.dst,.int .i64 e.w]])=
   some (.aX (M.length+1) 0 0 1,M++[a2.box [.int .i64 e.src,.int .i64 e.dst,.int .i64 e.w]]++[a2.arr 3 [[.int .i64 e.src,.int .i64 e.dst,.int .i64 e.w]] 0 0]):=by
   simp[d0,eJ,g3,fq]
  have MM:nR .int (.int .i64 e.src) (.aX (M.length+1) 0 0 1) (cC iY mp)=some (cC iY (hW e.src (.aX (M.length+1) 0 0 1) mp)):=Ol vH e.src mp rfl;have p2:=b6 CY [.arr 3 [[.int .i64 e.src,.int .i64 e.dst,.int .i64 e.w]] 0 0];have Kv:(M++[a2.box [.int .i64 e.src,.int .i64 e.dst,.int .i64 e.w]]++[a2.arr 3 [[.int .i64 e.src,.int .i64 e.dst,.int .i64 e.w]] 0 0])[M.length]? =some (.box [.int .i64 e.src,.int .i64 e.dst,.int .i64 e.w]):=by
   rw[eB,e0];rfl
  rw[ao] at ks;simp only at ks;simp-implicitDefEqProofs (disch:=omega) only[go_sem,aw,he,Edge.row,eZ,kk,CY,ks,eU,p2,Kv,MM];refine c6 hi ⟨hW e.src (.aX (M.length+1) 0 0 1) mp,?_,rfl⟩;rw[aT];have:=aK;simp only[dT,dz,gZ,Edge.row] at this;exact this
 |some v=>
  obtain⟨a,ver,rfl,et⟩:=aB.v5 _ _ ao;have aK:=aJv aB e ao;have kq:a<(M++[a2.box e.row]).length:=(bn.1 et).1;have LO:a≠0:=fun q=>by rw[q,aB.mapA] at et;cases et
  have kY:decide (((gp e.src (l.take i)).length+1)*48<=2^48)=true:=decide_eq_true (by omega);have eU:d0 false 3 24 (.aX a ver 0 (gp e.src (l.take i)).length) (.slice [[.int .i64 e.src,.int .i64 e.dst,.int .i64 e.w]] .full) (M++[a2.box [.int .i64 e.src,.int .i64 e.dst,.int .i64 e.w]])=
   some (.aX a (ver+1) 0 ((gp e.src (l.take i)).length+1),(M++[a2.box [.int .i64 e.src,.int .i64 e.dst,.int .i64 e.w]]).set a (.arr 3 ((gp e.src (l.take i)++[e]).map Edge.row) (ver+1) 0)):=by
   simp only[Edge.row] at et;simp only[d0,eJ,fq,dz,gZ,ev,beq_self_eq_true,cond_true,g3,et,eD,eR,Nat.reduceMul,kY];simp[Edge.row]
  have MM:nR .int (.int .i64 e.src) (.aX a (ver+1) 0 ((gp e.src (l.take i)).length+1)) (cC iY mp)=some (cC iY (hW e.src (.aX a (ver+1) 0 ((gp e.src (l.take i)).length+1)) mp)):=Ol vH e.src mp rfl;have p2:∀B:a2,((M++[a2.box [.int .i64 e.src,.int .i64 e.dst,.int .i64 e.w]]).set a B)[0]? =some (.map (cC iY mp)):=fun B=>by
   rw[dx LO];exact CY
  have aEl:a≠M.length:=fun q=>by rw[q,e0] at et;cases et
  have Kv:∀B:a2,((M++[a2.box [.int .i64 e.src,.int .i64 e.dst,.int .i64 e.w]]).set a B)[M.length]? =some (.box [.int .i64 e.src,.int .i64 e.dst,.int .i64 e.w]):=fun B=>by
   rw[dx aEl,e0];rfl
  rw[ao] at ks;simp only at ks;simp-implicitDefEqProofs (disch:=omega) only[go_sem,aw,he,Edge.row,eZ,kk,CY,ks,eU,p2,Kv,MM];refine c6 hi ⟨hW e.src (.aX a (ver+1) 0 ((gp e.src (l.take i)).length+1)) mp,?_,rfl⟩;rw[aT];exact aK
end Go.aQ.C
namespace Go.aQ.C
open Go.aQ
def OX(l:List Edge)(N:Nat)(W:Nat->Nat->Int):Prop:=(∀e∈l,W e.src.toNat e.dst.toNat<=e.w)/\∀i j m,i<N->j<N->m<N->W i j<=W i m+W m j
structure nY(l:List Edge)(N s c:Nat)(D:List dp)(q:List cb)(Js:Edge->Prop):Prop where
 len:D.length=N
 ln:c=D.countP fun x=>decide (0<=x.eb)
 fin:∀(i:Nat)(x:dp),D[i]? =some x->(x.eb=-1/\x.len=-1)∨(0<=x.eb/\x.eb<=c/\0<=x.len/\x.len<=14400*x.eb)
 qq:∀z∈q,(0<=z.1.node/\z.1.node<N)/\0<=z.1.eb/\z.1.eb<=c/\0<=z.1.len/\z.1.len<=14400*z.1.eb
 rel:∀e∈l,¬Js e->∀x,D[e.src.toNat]? =some x->0<=x.eb->∃y,D[e.dst.toNat]? =some y/\((0<=y.eb/\y.len<=x.len+e.w)∨(y.eb<0/\∃z∈q,z.1.node=e.dst/\z.1.len<=x.len+e.w))
 mono:∀(i:Nat)(x:dp),D[i]? =some x->0<=x.eb->∀z∈q,x.len<=z.1.len
 low:∀W,OX l N W->(∀(i:Nat)(x:dp),D[i]? =some x->0<=x.eb->i≠s->W s i<=x.len)/\∀z∈q,z.1.node.toNat≠s->W s z.1.node.toNat<=z.1.len
 src:(∃x,D[s]? =some x/\0<=x.eb/\x.len=0)∨((∀(i:Nat)(x:dp),D[i]? =some x->x.eb=-1)/\∃p,q=[(⟨s,0,0⟩,p)])
theorem OT{x y:cb}(h:jp x y):x.1.len<=y.1.len:=by
 unfold jp rY at h;omega
theorem QC{α:Type}{p:α->Bool}{a b:α}:∀(l:List α)(i:Nat),l[i]? =some a->p a=false->p b=true->(l.set i b).countP p=l.countP p+1
 |[],i,h,_,_=>by simp at h
 |x::l,0,h,bk,aj=>by
  simp at h;subst h;rw[List.set_cons_zero,List.countP_cons,List.countP_cons,bk,aj];simp
 |x::l,i+1,h,bk,aj=>by
  rw[List.set_cons_succ,List.countP_cons,List.countP_cons,QC l i (by simpa using h) bk aj];omega
theorem aAD{l:List Edge}{N s c:Nat}{D:List dp}{q jU:List cb}{z:cb}{Js:Edge->Prop}(h:nY l N s c D q Js)(ax:EK q z jU){x:dp}(ab:D[z.1.node.toNat]? =some x)(aC:0<=x.eb)(ey:∀e∈l,e.jR N)(a7:z∈q):nY l N s c D jU Js:=by
 refine⟨h.len,h.ln,h.fin,fun w hw=>h.qq w (ax.sub w hw),fun e he p5 u hu ml=>?_,fun i u hu ml w hw=>h.mono i u hu ml w (ax.sub w hw),fun W eu=>⟨(h.low W eu).1,fun w hw=>(h.low W eu).2 w (ax.sub w hw)⟩,?_⟩
 . obtain⟨y,aD,oc⟩:=h.rel e he p5 u hu ml
   refine⟨y,aD,?_⟩;rcases oc with oc|⟨U,w,hw,af,ay⟩
   . exact .inl oc
   . rcases ax.mem w hw with rfl|gH
     . rw[af,aD] at ab;cases ab;omega
     . exact .inr ⟨U,w,gH,af,ay⟩
 . rcases h.src with U|⟨U,_⟩
   . exact .inl U
   . have:=U _ _ ab;omega
theorem aAF{l:List Edge}{N s c:Nat}{D:List dp}{q jU:List cb}{z:cb}(h:nY l N s c D q (fun _=>False))(ax:EK q z jU){x:dp}(ab:D[z.1.node.toNat]? =some x)(aC:x.eb<0)(ey:∀e∈l,e.jR N)(a7:z∈q):
 nY l N s (c+1) (D.set z.1.node.toNat z.1) jU (fun e=>e.src=z.1.node)/\∀(i:Nat)(y:dp),(D.set z.1.node.toNat z.1)[i]? =some y->0<=y.eb->y.len<=z.1.len:=by
 obtain⟨⟨vO,vP⟩,a6,ba,cU,eW⟩:=h.qq z a7;have bw:z.1.node.toNat<D.length:=(bn.1 ab).1;have get:∀i,(D.set z.1.node.toNat z.1)[i]? =if i=z.1.node.toNat then some z.1 else D[i]? :=fun i=>by
  rw[List.getElem?_set];by_cases hi:i=z.1.node.toNat
  . subst hi;rw[if_pos rfl,if_pos bw,if_pos rfl]
  . rw[if_neg (gi hi),if_neg hi]
 refine⟨⟨by rw[eO];exact h.len,?_,fun i u hu=>?_,fun w hw=>?_,fun e he p5 u hu ml=>?_,fun i u hu ml w hw=>?_,fun W eu=>⟨fun i u hu ml hi=>?_,fun w hw=>(h.low W eu).2 w (ax.sub w hw)⟩,?_⟩,fun i y aD zt=>?_⟩
 . rw[QC D _ ab (decide_eq_false (by omega)) (decide_eq_true a6),<-h.ln]
 . rw[get] at hu
   split at hu
   . cases hu;exact .inr ⟨a6,by omega,cU,eW⟩
   . rcases h.fin i u hu with U|U
     . exact .inl U
     . exact .inr ⟨U.1,by omega,U.2.2⟩
 . obtain⟨bU,b4,cG,dl,eY⟩:=h.qq w (ax.sub w hw)
   exact⟨bU,b4,by omega,dl,eY⟩
 . obtain⟨⟨s1,ds⟩,⟨d1,d2⟩,_⟩:=ey e he
   rw[get,if_neg (by omega)] at hu;obtain⟨y,aD,oc⟩:=h.rel e he (fun q=>q) u hu ml;by_cases aw:e.dst.toNat=z.1.node.toNat
   . refine⟨z.1,by rw[get,if_pos aw],.inl ⟨a6,?_⟩⟩
     rw[aw,ab] at aD;cases aD;rcases oc with⟨U,_⟩|⟨_,w,hw,_,ay⟩
     . omega
     . have:=OT (ax.min w hw);omega
   . refine⟨y,by rw[get,if_neg aw];exact aD,?_⟩
     rcases oc with oc|⟨U,w,hw,af,ay⟩
     . exact .inl oc
     . rcases ax.mem w hw with rfl|gH
       . exact absurd (by rw[af]) aw
       . exact .inr ⟨U,w,gH,af,ay⟩
 . rw[get] at hu
   split at hu
   . cases hu;exact OT (ax.min w (ax.sub w hw))
   . exact h.mono i u hu ml w (ax.sub w hw)
 . rw[get] at hu
   split at hu
   . rename_i mm
     cases hu;have:=(h.low W eu).2 z a7 (by omega);rw[<-mm] at this;exact this
   . exact(h.low W eu).1 i u hu ml hi
 . rcases h.src with⟨u,hu,ml,aF_⟩|⟨U,p,aG⟩
   . refine .inl ⟨u,?_,ml,aF_⟩
     rw[get,if_neg (fun q=>by rw[q,ab] at hu;cases hu;omega)];exact hu
   . rw[aG] at a7
     have:=ht.1 a7;subst this;exact .inl ⟨⟨s,0,0⟩,by rw[get,if_pos (by simp)],by simp,rfl⟩
 . rw[get] at aD
   split at aD
   . cases aD;exact Int.le_refl _
   . exact h.mono i y aD zt z a7
def dD(l:List Edge)(t:Nat)(e:Edge):Prop:=∃gD,t<=gD/\l[gD]? =some e
theorem aK0{l:List Edge}{k:Int}{e:Edge}(he:e∈l)(ao:e.src=k):dD (gp k l) 0 e:=by
 obtain⟨t,aT⟩:=ij (oH.2 ⟨he,decide_eq_true ao⟩:e∈gp k l);exact⟨t,fG _,aT⟩
theorem VR{l:List Edge}{t:Nat}{e f:Edge}(aC:l[t]? =some f)(h:¬dD l (t+1) e):¬dD l t e∨e=f:=by
 by_cases U:dD l t e
 . obtain⟨gD,aT,he⟩:=U
   rcases Nat.eq_or_lt_of_le aT with rfl|aT
   . rw[aC] at he;cases he;exact .inr rfl
   . exact absurd ⟨gD,aT,he⟩ h
 . exact .inl U
theorem QN{l:List Edge}{N s c:Nat}{D:List dp}{q:List cb}{iD f3:Edge->Prop}(h:nY l N s c D q iD)(ax:∀e∈l,¬f3 e->¬iD e):nY l N s c D q f3:=
 ⟨h.len,h.ln,h.fin,h.qq,fun e he p5=>h.rel e he (ax e he p5),h.mono,h.low,h.src⟩
theorem aAH{l:List Edge}{N s c t:Nat}{u p:Int}{D:List dp}{q jU:List cb}{x y:dp}{e:Edge}(h:nY l N s c D q (dD (gp u l) t))(he:(gp u l)[t]? =some e)(ey:∀e∈l,e.jR N)(ab:D[u.toNat]? =some x)(hj:0<=x.eb)(Uh:x.eb+1<=c)
 (xo:∀(i:Nat)(y:dp),D[i]? =some y->0<=y.eb->y.len<=x.len)(aD:D[e.dst.toNat]? =some y)(zt:y.eb<0)(ax:Ki q (⟨e.dst,x.len+e.w,x.eb+1⟩,p) jU):
 nY l N s c D jU (dD (gp u l) (t+1)):=by
 have zq:=oH.1 (dO he);have sn:e.src=u:=by simpa using zq.2
 obtain⟨⟨s1,ds⟩,⟨d1,d2⟩,hp,lF⟩:=ey e zq.1;have aOF:0<=x.len/\x.len<=14400*x.eb:=by
  rcases h.fin _ _ ab with U|U
  . omega
  . exact⟨U.2.2.1,U.2.2.2⟩
 refine⟨h.len,h.ln,h.fin,fun z a7=>?_,fun f aC nx a bk zr=>?_,fun i a bk zr z a7=>?_,fun W eu=>⟨(h.low W eu).1,fun z a7 cr=>?_⟩,?_⟩
 . rcases(ax.mem z).1 a7 with a7|rfl
   . exact h.qq z a7
   . exact⟨⟨d1,d2⟩,by simp;omega,by simp;omega,by simp;omega,by simp;omega⟩
 . rcases VR he nx with nx|rfl
   . obtain⟨b,aj,LQ⟩:=h.rel f aC nx a bk zr
     refine⟨b,aj,?_⟩;rcases LQ with LQ|⟨U,z,a7,af⟩
     . exact .inl LQ
     . exact .inr ⟨U,z,(ax.mem z).2 (.inl a7),af⟩
   . rw[sn,ab] at bk;cases bk
     exact⟨y,aD,.inr ⟨zt,_,(ax.mem _).2 (.inr rfl),rfl,Int.le_refl _⟩⟩
 . rcases(ax.mem z).1 a7 with a7|rfl
   . exact h.mono i a bk zr z a7
   . have:=xo i a bk zr;simp only;omega
 . rcases(ax.mem z).1 a7 with a7|rfl
   . exact(h.low W eu).2 z a7 cr
   . simp only at cr⊢
     have U:=eu.1 e zq.1;rw[sn] at U;by_cases T9:u.toNat=s
     . rw[T9] at U;omega
     . have af:=(h.low W eu).1 _ _ ab hj T9
       have ak:s<N:=by
        rcases h.src with⟨a,bk,_⟩|⟨ay,_⟩
        . have:=(bn.1 bk).1;rw[h.len] at this;exact this
        . have:=ay _ _ ab;omega
       have ay:=eu.2 s e.dst.toNat u.toNat ak (by omega) (by omega);omega
 . rcases h.src with U|⟨U,_⟩
   . exact .inl U
   . have:=U _ _ ab;omega
theorem aAI{l:List Edge}{N s c t:Nat}{u:Int}{D:List dp}{q:List cb}{x y:dp}{e:Edge}(h:nY l N s c D q (dD (gp u l) t))(he:(gp u l)[t]? =some e)(ey:∀e∈l,e.jR N)(ab:D[u.toNat]? =some x)
 (xo:∀(i:Nat)(y:dp),D[i]? =some y->0<=y.eb->y.len<=x.len)(aD:D[e.dst.toNat]? =some y)(zt:0<=y.eb):nY l N s c D q (dD (gp u l) (t+1)):=by
 have zq:=oH.1 (dO he);have sn:e.src=u:=by simpa using zq.2
 obtain⟨_,_,hp,lF⟩:=ey e zq.1;refine⟨h.len,h.ln,h.fin,h.qq,fun f aC nx a bk zr=>?_,h.mono,h.low,h.src⟩;rcases VR he nx with nx|rfl
 . exact h.rel f aC nx a bk zr
 . rw[sn,ab] at bk;cases bk
   have:=xo _ y aD zt;exact⟨y,aD,.inl ⟨zt,by omega⟩⟩
structure yI(l:List Edge)(N s:Nat)(D:List dp):Prop where
 len:D.length=N
 fin:∀(i:Nat)(x:dp),D[i]? =some x->(x.eb<0/\x.len=-1)∨(0<=x.eb/\0<=x.len/\x.len<=1000000)
 rel:∀e∈l,∀x,D[e.src.toNat]? =some x->0<=x.eb->∃y,D[e.dst.toNat]? =some y/\0<=y.eb/\y.len<=x.len+e.w
 low:∀W,OX l N W->∀(i:Nat)(x:dp),D[i]? =some x->0<=x.eb->i≠s->W s i<=x.len
 src:∃x,D[s]? =some x/\0<=x.eb/\x.len=0
theorem aAE{l:List Edge}{N s c:Nat}{D:List dp}(db:N<=64)(h:nY l N s c D [] (fun _=>False)):yI l N s D:=by
 have ar:c<=64:=by
  have:=List.countP_le_length (p:=fun x:dp=>decide (0<=x.eb)) (l:=D);rw[<-h.ln,h.len] at this;omega
 refine⟨h.len,fun i x ab=>?_,fun e he x ab aC=>?_,fun W eu=>(h.low W eu).1,?_⟩
 . rcases h.fin i x ab with U|U
   . exact .inl ⟨by omega,U.2⟩
   . exact .inr ⟨U.1,U.2.2.1,by omega⟩
 . obtain⟨y,aD,oc⟩:=h.rel e he (fun q=>q) x ab aC
   rcases oc with oc|⟨_,z,a7,_⟩
   . exact⟨y,aD,oc⟩
   . cases a7
 . rcases h.src with U|⟨_,p,aG⟩
   . exact U
   . cases aG
def qb(N:Nat):List dp:=(c1 N).map fun i:Nat=>⟨(i:Int),-1,-1⟩
theorem aAG(l:List Edge)(N s:Nat)(ak:s<N)(p:Int):nY l N s 0 (qb N) [(⟨(s:Int),0,0⟩,p)] (fun _=>False):=by
 have get:∀(i:Nat)(x:dp),(qb N)[i]? =some x->x.eb=-1/\x.len=-1:=fun i x ab=>by
  obtain⟨j,_,rfl⟩:=ld.1 (dO ab);exact⟨rfl,rfl⟩
 refine⟨by simp[qb],?_,fun i x ab=>.inl (get i x ab),fun z a7=>?_,fun e _ _ x ab aC=>?_,fun i x ab aC=>?_,fun W _=>⟨fun i x ab aC=>?_,fun z a7 cr=>?_⟩,.inr ⟨fun i x ab=>(get i x ab).1,p,rfl⟩⟩
 . symm
   rw[List.countP_eq_zero];intro x ab;obtain⟨j,_,rfl⟩:=ld.1 ab;simp
 . have:=ht.1 a7;subst this
   simp only;exact⟨⟨by omega,by omega⟩,by omega,by omega,by omega,by omega⟩
 . have:=(get _ x ab).1;omega
 . have:=(get _ x ab).1;omega
 . have:=(get _ x ab).1;omega
 . have:=ht.1 a7;subst this
   simp at cr
end Go.aQ.C
namespace Go.aQ.C
open Go.aQ
def lN(M:Mem)(s:Nat)(D:List dp):Mem:=M++[.arr 3 (D.map i7) 0 0,.box [.dH jQ [],.slice [] .nil,.int .i64 0],.box (dp.cells ⟨(s:Int),0,0⟩),.dead]
def ak(M:Mem)(s:Nat)(D:List dp)(q j:List cb)(ver:Nat)(p:Int):Mem:=cJ (lN M s D) (M.length+1) (M.length+3) q j ver p
section
variable{M:Mem}{s:Nat}{D:List dp}{q j:List cb}{ver:Nat}{p:Int}
theorem y2(e1:cL M.length M=true):lg (lN M s D) (M.length+1) (M.length+3):=⟨by simp[lN],by simp[lN],by omega,by
 rw[lN,rt,dT,ru (Nat.le_add_right _ _) M e1];simp[cL,a2.under,dp.cells,cS,V.under]⟩
theorem lz:(ak M s D q j ver p).length=M.length+4:=by rw[ak,q_,lN];simp
theorem MG{i:Nat}{B:a2}(h:M[i]? =some B):(ak M s D q j ver p)[i]? =some B:=by
 have:=(bn.1 h).1;rw[ak,Tl (by omega) (by omega),lN];exact b6 h _
theorem aGQ:(ak M s D q j ver p)[M.length]? =some (.arr 3 (D.map i7) 0 0):=by
 rw[ak,Tl (by omega) (by omega),lN,e0];rfl
theorem aGR(uA:List dp):(ak M s D q j ver p).set M.length (.arr 3 (uA.map i7) 0 0)=ak M s uA q j ver p:=by
 have e:(lN M s D).set M.length (.arr 3 (uA.map i7) 0 0)=lN M s uA:=by rw[lN,kg];rfl
 rw[ak,ak,<-e,cJ,cJ];refine oF fun i=>?_;simp only[List.getElem?_set,eO];by_cases U:M.length=i
 . subst U
   have bw:M.length<(lN M s D).length:=by simp[lN]
   simp[bw]
 . rw[if_neg U,if_neg U]
theorem T3(L:Mem):(ak M s D q j ver p++L).take M.length=M:=by
 refine oF fun i=>?_;rw[List.getElem?_take];by_cases hi:i<M.length
 . rw[if_pos hi,b6 (MG (gd hi)) L];simp[hi]
 . rw[if_neg hi,lJ (by omega)]
theorem T1(e1:cL M.length M=true):cL (M.length+4) (ak M s D q j ver p)=true:=by
 have:=tB (l:=q) (j:=j) (ver:=ver) (p:=p) (y2 (s:=s) (D:=D) e1);rwa [show(lN M s D).length=M.length+4 by simp[lN]] at this
theorem T2(e1:cL M.length M=true){vs:List V}(L:Mem)(aq:cS (M.length+4) vs=true):hK (M.length+4) vs (ak M s D q j ver p++L)=true:=by
 have U:M.length+4<=(ak M s D q j ver p++L).length:=by rw[dT,lz];omega
 simp only[hK,aq,decide_eq_true U,kI lz L,T1 e1,eR]
end
theorem aJr{M:Mem}{mp:List (Int×V)}{l:List Edge}(h:pF M mp l)(sz:Nat)(rows:List (List V))(v f:Nat):pF (M++[.arr sz rows v f]) mp l:=
 ⟨b6 h.mapA _,h.x_,fun k v ao=>by
   obtain⟨a,ver,U,af⟩:=h.v5 k v ao;exact⟨a,ver,U,b6 af _⟩,h.inj,fun e he=>yu (by simp) _ (h.Az e he),by
   rw[rt,dT,ru (Nat.le_add_right _ _) M h.own];rfl⟩
theorem aJt{M:Mem}{mp:List (Int×V)}{l:List Edge}(h:pF M mp l)(u:Int):∃v,nF .int (.slice [] .nil) false (.int .i64 u) (cC iY mp)=some v/\v.under M.length=true/\
 ∀N:Mem,(∀(i:Nat)(B:a2),M[i]? =some B->N[i]? =some B)->i0 v N=some (.int .i64 (gp u l).length)/\∀(t:Nat)(e:Edge),(gp u l)[t]? =some e->∃r,jj 3 v (.int .i64 (t:Int)) N=some r/\hn 3 true r N=some (.agg e.row):=by
 have ag:nF .int (.slice [] .nil) false (.int .i64 u) (cC iY mp)=some (match fR u mp with|some v=>v|none=>.slice [] .nil):=z_ vH _ _ _ _;cases ao:fR u mp with
 |none=>
  rw[ao] at ag;refine⟨_,ag,rfl,fun N _=>?_⟩;rw[h.x_ u ao];exact⟨rfl,fun t e he=>by simp at he⟩
 |some v=>
  rw[ao] at ag;obtain⟨a,ver,rfl,et⟩:=h.v5 u v ao;refine⟨_,ag,?_,fun N db=>?_⟩
  . have:=(bn.1 et).1;simp[V.under];exact this
  . have LB:=db a _ et
    refine⟨by simp[i0,LB],fun t e he=>?_⟩;have aT:=(bn.1 he).1;refine⟨.fo a ver t 0,?_,?_⟩
    . rw[Ul (by omega),LB]
      simp[aT]
    . rw[UF,LB]
      simp[he,iC,Edge.row]
theorem aH0{M:Mem}{mp:List (Int×V)}(l:List Edge)(N s:Nat)(db:N<=64)(k0:s<N)(ey:∀e∈l,e.jR N)(hlen:l.length<=4096)(bY:pF M mp l):
 cj av IC [.int .i64 N,.map 0,.int .i64 s] M (fun v ah=>ah=M/\∃D,v=.slice (D.map i7) .cv/\yI l N s D):=by
 have pa:=fun M=>Nd (zero:=[.int .i64 0,.int .i64 0,.int .i64 0]) (sz:=3) (bytes:=24) (n:=N) (M:=M) (by omega) (by omega);have iX:(c1 N).length=N:=List.length_range;refine bZ aC2 (by simp[Ge]) ?_;have vf:∀(r:List (List V)),i0 (.aX M.length 0 0 N) (M++[.arr 3 r 0 0])=some (.int .i64 N):=fun r=>by simp[i0]
 simp-implicitDefEqProofs (disch:=omega) only[go_sem,Ge,pa,vf];refine gg N (fun i vs dP=>vs=[.map 0,.int .i64 s,.aX M.length 0 0 N,.int .i64 N,.int .i64 i]/\dP=M++[.arr 3 (((c1 N).take i).map (fun i:Nat=>i7 ⟨(i:Int),-1,-1⟩)++fV (N -i) [.int .i64 0,.int .i64 0,.int .i64 0]) 0 0]) ⟨rfl,by simp⟩ ?_ ?_
 . rintro i vs dP hi aw ⟨rfl,rfl⟩
   have ab:(c1 N)[i]? =some i:=by simp[hi]
   have bU:=Lh (c1 N) (fun i:Nat=>i7 ⟨(i:Int),-1,-1⟩) [.int .i64 0,.int .i64 0,.int .i64 0] (i:=i) (by omega);have b4:=Lg (l:=c1 N) (f:=fun i:Nat=>i7 ⟨(i:Int),-1,-1⟩) (z:=[.int .i64 0,.int .i64 0,.int .i64 0]) (i:=i) (by omega);have cG:=Li (f:=fun i:Nat=>i7 ⟨(i:Int),-1,-1⟩) (z:=[.int .i64 0,.int .i64 0,.int .i64 0]) ab;rw[iX] at bU b4 cG;have dl:decide (i<N)=true:=decide_eq_true hi;have eZ:=fun L=>e0 M L;have kk:=fun L=>kg M L;simp only[i7] at cG bU b4;simp-implicitDefEqProofs (disch:=omega) only[go_sem,aw,i7,eZ,kk,bU,b4,cG,dl];exact c6 hi ⟨rfl,rfl⟩
 rintro vs dP ⟨rfl,rfl⟩;have a7:((c1 N).take N).map (fun i:Nat=>i7 ⟨(i:Int),-1,-1⟩)++fV (N -N) [V.int .i64 0,.int .i64 0,.int .i64 0]=(qb N).map i7:=by
  rw[g1 (by rw[iX];omega),mH];simp[qb]
 rw[a7];simp-implicitDefEqProofs (disch:=omega) only[go_sem,dg];refine ew Yq ?_;rintro v _ ⟨rfl,rfl⟩;simp-implicitDefEqProofs (disch:=omega) only[go_sem];have e1:=bY.own;have iD:(M++[a2.arr 3 ((qb N).map i7) 0 0]++[a2.box [.dH jQ [],.slice [] .nil,.int .i64 0]])[M.length+1]? =some (.box [.dH jQ [],.slice [] .nil,.int .i64 0]):=by
  rw[eB,iP];rfl
 have f3:cL (M++[a2.arr 3 ((qb N).map i7) 0 0]++[a2.box [.dH jQ [],.slice [] .nil,.int .i64 0]]).length (M++[a2.arr 3 ((qb N).map i7) 0 0]++[a2.box [.dH jQ [],.slice [] .nil,.int .i64 0]])=true:=by
  rw[eB,rt,dT,ru (Nat.le_add_right _ _) M e1];simp[cL,a2.under,cS,V.under]
 refine ew (ZW ⟨(s:Int),0,0⟩ iD f3) ?_;rintro v _ ⟨rfl,rfl⟩;have aFP:cJ (M++[a2.arr 3 ((qb N).map i7) 0 0]++[a2.box [.dH jQ [],.slice [] .nil,.int .i64 0]]++[.box (dp.cells ⟨(s:Int),0,0⟩),.dead]) (M.length+1) ((M++[a2.arr 3 ((qb N).map i7) 0 0]++[a2.box [.dH jQ [],.slice [] .nil,.int .i64 0]]).length+1) [(⟨(s:Int),0,0⟩,0)] [] 0 1=
  ak M s (qb N) [(⟨(s:Int),0,0⟩,0)] [] 0 1:=by
  rw[ak,lN];simp
 rw[aFP];simp-implicitDefEqProofs (disch:=omega) only[go_sem];have aEa:∀(D:List dp)(j:List cb)(ver:Nat)(p:Int),cj av xK [.ptr (M.length+1) 0] (ak M s D [] j ver p) (fun v ah=>v=ps []/\ah=ak M s D [] j ver p):=fun D j ver p=>ZT (y2 e1);have aD_:∀(D:List dp)(z:cb)(r j:List cb)(ver:Nat)(p:Int),(z::r).length<=1000000000->ng (z::r)->cj av xK [.ptr (M.length+1) 0] (ak M s D (z::r) j ver p) (fun v ah=>v=ps (z::r)/\∃l' j',ah=ak M s D l' j' ver p/\EK (z::r) z l'):=fun D z r j ver p aj ax=>ZU (y2 e1) aj ax;have aEb:∀(D:List dp)(q j:List cb)(ver:Nat)(p:Int)(x:dp)(L:Mem),cL (M.length+4+L.length) L=true->q.length<=100000000->0<=p/\p<=1000000000->cj av xL [.ptr (M.length+1) 0,.agg x.cells] (ak M s D q j ver p++L) (fun v ah=>v=.tuple []/\∃l',ah=ak M s D l' [] (ver+1) (p+1)++L/\Ki q (x,p) l'):=fun D q j ver p x L dh aj ax=>by
  have ag:(lN M s D).length=M.length+4:=by simp[lN]
  unfold ak;rw[pY (y2 e1)];refine cj.mono (ZX x ((y2 e1).app (by rw[ag];exact dh)) aj ax) ?_;rintro v ah ⟨U,l',af,ay⟩;exact⟨U,l',by rw[pY (y2 e1)];exact af,ay⟩
 have mA:∀(D:List dp)(q j:List cb)(ver:Nat)(p:Int)(L:Mem),(ak M s D q j ver p++L)[M.length]? =some (.arr 3 (D.map i7) 0 0):=fun D q j ver p L=>b6 aGQ L;have hI:∀(D:List dp)(q j:List cb)(ver:Nat)(p:Int)(L:Mem),(ak M s D q j ver p++L)[M.length+4]? =L[0]? :=fun D q j ver p L=>by
  have:=e0 (ak M s D q j ver p) L;rwa [lz] at this
 have uc:∀(D:List dp)(q j:List cb)(ver:Nat)(p:Int)(L:Mem)(x:a2),(ak M s D q j ver p++L).set (M.length+4) x=ak M s D q j ver p++L.set 0 x:=fun D q j ver p L x=>by
  have:=kg (ak M s D q j ver p) L x;rwa [lz] at this
 have Vb:∀(D:List dp)(q j:List cb)(ver:Nat)(p:Int)(L:Mem),(ak M s D q j ver p++L)[M.length+4+1]? =L[1]? :=fun D q j ver p L=>by
  have:=iP (ak M s D q j ver p) L 1;rwa [lz] at this
 have aJL:∀(D:List dp)(q j:List cb)(ver:Nat)(p:Int)(L:Mem)(x:a2),(ak M s D q j ver p++L).set (M.length+4+1) x=ak M s D q j ver p++L.set 1 x:=fun D q j ver p L x=>by
  have:=k7 (ak M s D q j ver p) L 1 x;rwa [lz] at this
 have aJM:∀(D uA:List dp)(q j:List cb)(ver:Nat)(p:Int)(L:Mem),(ak M s D q j ver p++L).set M.length (.arr 3 (uA.map i7) 0 0)=ak M s uA q j ver p++L:=fun D uA q j ver p L=>by
  rw[nN (by rw[lz];omega),aGR]
 have aJN:∀(D:List dp)(q j:List cb)(ver:Nat)(p:Int)(L:Mem),(ak M s D q j ver p++L)[0]? =some (.map (cC iY mp)):=fun D q j ver p L=>b6 (MG bY.mapA) L;have UX:∀(D:List dp){u:Int}{x:dp},D[u.toNat]? =some x->(D.map i7)[u.toNat]? =some [.int .i64 x.node,.int .i64 x.len,.int .i64 x.eb]:=fun D u x ab=>by rw[gY,ab];rfl
 have xz:ng [((⟨(s:Int),0,0⟩:dp),(0:Int))]:=fun i x y hi ab=>by
  rw[lJ (by simp;omega)] at ab;cases ab
 refine oC (fun m vs dP=>∃(D:List dp)(q j:List cb)(ver:Nat)(p:Int)(c:Nat),vs=[.map 0,.aX M.length 0 0 N,.ptr (M.length+1) 0]/\dP=ak M s D q j ver p/\nY l N s c D q (fun _=>False)/\ng q/\0<=p/\p+(N -c:Nat)*4096<=300000/\m=q.length+(N -c)*4097/\m<=300000)
  (1+N*4097) ⟨qb N,_,[],0,1,0,rfl,rfl,aAG l N s k0 0,xz,by omega,by omega,by simp,by omega⟩ ?_;rintro m vs dP ⟨D,q,j,ver,p,c,rfl,rfl,en,aG,ss,mq,rfl,TM⟩;have aOe:c<=N:=by
  have:=List.countP_le_length (p:=fun x:dp=>decide (0<=x.eb)) (l:=D);rw[<-en.ln,en.len] at this;exact this
 cases q with
 |nil=>
  simp-implicitDefEqProofs (disch:=omega) only[go_sem];refine ew (aEa D j ver p) ?_;rintro v _ ⟨rfl,rfl⟩;simp-implicitDefEqProofs (disch:=omega) only[go_sem,ps,lz,hI,uc];rw[show Qg=.seq KI .ret from rfl,Xk,aAY];have aC:∀L:Mem,fu (ak M s D [] j ver p++L) M.length 20 (.aX M.length 0 0 N)=some (.slice (D.map i7) .cv):=fun L=>by
   have:=zf (base:=M.length) (n:=19) (start:=0) (len:=N) (by simp) (mA D [] j ver p L) (by rw[eD,en.len];omega);rw[l9,g1 (by rw[eD,en.len];omega)] at this;exact this
  show lL (fu (ak M s D [] j ver p++[_]) M.length 20 (.aX M.length 0 0 N)) _;rw[aC];refine⟨?_,T3 _,D,rfl,aAE db en⟩;rw[T3,e1,decide_eq_true (by rw[dT,lz];omega)];rfl
 |cons z r=>
  simp-implicitDefEqProofs (disch:=omega) only[go_sem];refine ew (aD_ D z r j ver p (by omega) aG) ?_;rintro v _ ⟨rfl,jU,j',rfl,vn⟩;obtain⟨⟨aOU,aOV⟩,aNH,aOR,aOS,aOT⟩:=en.qq z (by simp);obtain⟨x,ab⟩:∃x,D[z.1.node.toNat]? =some x:=⟨D[z.1.node.toNat]'(by rw[en.len];omega),by simp⟩;have ob:=UX D ab;have eY:decide (z.1.node.toNat<N)=true:=decide_eq_true (by omega);have fQ:decide (N<=D.length)=true:=decide_eq_true (by rw[en.len];omega);simp-implicitDefEqProofs (disch:=omega) only[go_sem,ps,dp.cells,lz,mA,hI,uc,ob,eY,fQ];refine a5 (fun aW=>?_) (fun aW=>?_)
  . simp-implicitDefEqProofs (disch:=omega) only[go_sem,lz]
    have lV:=vn.len;simp only[dz] at lV TM;refine JB (jU.length+(N -c)*4097) (by omega) (T2 e1 _ (by simp[dt,aY,cS,V.under])) ⟨D,jU,j',ver,p,c,rfl,kI lz _,aAD en vn ab aW ey (by simp),vn.ax,ss,mq,rfl,by omega⟩
  obtain⟨S0,xo⟩:=aAF en vn ab (by omega) ey (by simp);have bw:z.1.node.toNat<D.length:=by rw[en.len];omega
  have bh:∀L:Mem,(ak M s D jU j' ver p++L).set M.length (.arr 3 ((D.map i7).set z.1.node.toNat [.int .i64 z.1.node,.int .i64 z.1.len,.int .i64 z.1.eb]) 0 0)=ak M s (D.set z.1.node.toNat z.1) jU j' ver p++L:=fun L=>by
   rw[<-aJM D (D.set z.1.node.toNat z.1) jU j' ver p L,List.map_set];rfl
  obtain⟨JX,ks,aG_,aq⟩:=aJt bY z.1.node;simp-implicitDefEqProofs (disch:=omega) only[go_sem,mA,hI,ob,eY,fQ,bh,aJN,ks];have lV:=vn.len;simp only[dz] at lV TM;have gS:(gp z.1.node l).length<=4096:=jH (List.length_filter_le _ _) hlen;have Uc:∀(q j:List cb)(ver:Nat)(p:Int)(L:Mem),i0 JX (ak M s (D.set z.1.node.toNat z.1) q j ver p++L)=some (.int .i64 (gp z.1.node l).length)/\∀(t:Nat)(e:Edge),(gp z.1.node l)[t]? =some e->∃r,jj 3 JX (.int .i64 (t:Int)) (ak M s (D.set z.1.node.toNat z.1) q j ver p++L)=some r/\hn 3 true r (ak M s (D.set z.1.node.toNat z.1) q j ver p++L)=some (.agg e.row):=fun q j ver p L=>
   aq _ fun i B bY=>b6 (MG bY) L;have aFY:=fun q j ver p L=>(Uc q j ver p L).1;have aOf:c+1<=N:=by
   have:=List.countP_le_length (p:=fun x:dp=>decide (0<=x.eb)) (l:=D.set z.1.node.toNat z.1);rw[<-S0.ln,eO,en.len] at this;exact this
  have hu:(D.set z.1.node.toNat z.1)[z.1.node.toNat]? =some z.1:=eC bw;simp-implicitDefEqProofs (disch:=omega) only[go_sem,aFY];refine ek (gp z.1.node l) (fun t vs dP=>∃(dn xT:List cb)(iH:Nat)(f3:Int),vs=[.map 0,.aX M.length 0 0 N,.ptr (M.length+1) 0,.ptr (M.length+4) 0,JX,.int .i64 (gp z.1.node l).length,.int .i64 t]/\dP=ak M s (D.set z.1.node.toNat z.1) dn xT iH f3++[.box z.1.cells]/\
   nY l N s (c+1) (D.set z.1.node.toNat z.1) dn (dD (gp z.1.node l) t)/\ng dn/\0<=f3/\f3<=p+t/\dn.length<=jU.length+t) ⟨jU,j',ver,p,rfl,rfl,QN S0 (fun e he cr sn=>cr (aK0 he sn)),vn.ax,ss,by omega,by omega⟩ ?_ ?_;rotate_left
  . rintro vs dP ⟨dn,xT,iH,f3,rfl,rfl,U,af,ay,be,bv⟩
    simp-implicitDefEqProofs (disch:=omega) only[go_sem,dg,lz];refine JB (dn.length+(N -(c+1))*4097) (by omega) (T2 e1 _ (by simp[dt,aY,cS,V.under])) ⟨_,dn,xT,iH,f3,c+1,rfl,kI lz _,QN U (fun e _ _ ⟨gD,aT,he⟩=>by have:=(bn.1 he).1;omega),af,ay,by omega,rfl,by omega⟩
  rintro t e vs dP he zG pk ⟨dn,xT,iH,f3,rfl,rfl,U,af,ay,be,bv⟩;obtain⟨V4,vp,Hn⟩:=(Uc dn xT iH f3 [.box z.1.cells]).2 t e he;have aE2:=(oH.1 (dO he)).1;obtain⟨⟨s1,ds⟩,⟨d1,d2⟩,hp,lF⟩:=ey e aE2;obtain⟨y,aD⟩:∃y,(D.set z.1.node.toNat z.1)[e.dst.toNat]? =some y:=⟨(D.set z.1.node.toNat z.1)[e.dst.toNat]'(by rw[eO,en.len];omega),by simp⟩;have xG:=UX _ aD;have jq:decide (e.dst.toNat<N)=true:=decide_eq_true (by omega);have nZ:decide (N<=(D.set z.1.node.toNat z.1).length)=true:=decide_eq_true (by rw[eO,en.len];omega);simp only[dp.cells] at vp Hn;simp-implicitDefEqProofs (disch:=omega) only[go_sem,pk,vp,Hn,Edge.row,dp.cells,eB,lz,mA,Vb,aJL,xG,jq,nZ];have Ub:JX.under (M.length+4+1)=true:=yu (show M.length<=M.length+4+1 by omega) _ aG_;have aOG:z.1.len<=1000000/\z.1.eb<=64:=⟨by omega,by omega⟩;have Vy:∀(D:List dp)(q j:List cb)(ver:Nat)(p:Int)(vs:List V)(L:Mem),cS (M.length+4+1) vs=true->hK (M.length+4+1) vs (ak M s D q j ver p++([a2.box [.int .i64 z.1.node,.int .i64 z.1.len,.int .i64 z.1.eb]]++L))=true:=fun D q j ver p vs L De=>by
   have bH:(ak M s D q j ver p++[a2.box [.int .i64 z.1.node,.int .i64 z.1.len,.int .i64 z.1.eb]]).length=M.length+4+1:=by rw[dT,lz];rfl
   have b8:decide (M.length+4+1<=(ak M s D q j ver p++([a2.box [.int .i64 z.1.node,.int .i64 z.1.len,.int .i64 z.1.eb]]++L)).length)=true:=decide_eq_true (by rw[<-eB,dT,bH];omega);rw[hK,b8,De,<-eB,kI bH L,rt,ru (Nat.le_succ _) _ (T1 e1)];rfl
  have WK:∀(D:List dp)(q j:List cb)(ver:Nat)(p:Int)(L:Mem),(ak M s D q j ver p++([a2.box [.int .i64 z.1.node,.int .i64 z.1.len,.int .i64 z.1.eb]]++L)).take (M.length+4+1)=ak M s D q j ver p++[a2.box z.1.cells]:=fun D q j ver p L=>by
   rw[<-eB,kI (by rw[dT,lz];rfl) L];rfl
  refine a5 (fun a9=>?_) (fun a9=>?_)
  . have a6:IntKind.i64.wrap (z.1.len+e.w)=z.1.len+e.w:=by rw[nz];omega
    simp-implicitDefEqProofs (disch:=omega) only[go_sem,hI,Vb];refine ew (aEb (D.set z.1.node.toNat z.1) dn xT iH f3 ⟨e.dst,z.1.len+e.w,z.1.eb+1⟩ _ (by simp[cL,a2.under,cS,V.under]) (by omega) (by omega)) ?_;rintro v _ ⟨rfl,i3,rfl,zF⟩;have aOy:=zF.len;simp-implicitDefEqProofs (disch:=omega) only[go_sem,lz];refine dC zG (Vy _ _ _ _ _ _ [_] (by simp[dt,aY,cS,V.under,Ub];omega)) ⟨i3,[],iH+1,f3+1,rfl,WK _ _ _ _ _ [_],aAH U he ey hu aNH (by omega) xo aD a9 zF,zF.ax af,by omega,by omega,by omega⟩
  . simp-implicitDefEqProofs (disch:=omega) only[go_sem,lz]
    refine dC zG (Vy _ _ _ _ _ _ [_] (by simp[dt,aY,cS,V.under,Ub];omega)) ⟨dn,xT,iH,f3,rfl,WK _ _ _ _ _ [_],aAI U he ey hu xo aD (by omega),af,ay,by omega,by omega⟩
end Go.aQ.C
namespace Go.aQ.C
open Go.aQ
def kx(D:List dp):V:=.slice (D.map fun x=>[.int .i64 x.len]) .cv
theorem XD(l:List Edge)(c:c3)(N:Nat)(db:N<=64)(ey:∀e∈l,e.jR N)(hlen:l.length<=4096):
 bQ av IA [.int .i64 N,.slice (l.map Edge.row) c] (fun v=>∃D:Nat->List dp,v=.tuple [.slice ((c1 N).map fun i=>[kx (D i)]) .cv,.int .i64 0]/\∀i,i<N->yI l N i (D i)):=by
 have pa:=fun M=>Nd (zero:=[.slice [] .nil]) (sz:=1) (bytes:=24) (n:=N) (M:=M) (by omega) (by omega);have iX:(c1 N).length=N:=List.length_range;refine bZ aCZ (by simp[Gb]) ?_;simp-implicitDefEqProofs (disch:=omega) only[go_sem,Gb];refine fI (aLJ l c N db ey hlen) ?_;rintro v rfl;simp-implicitDefEqProofs (disch:=omega) only[go_sem];refine ew (aJw l c hlen) ?_;rintro v M ⟨rfl,mp,aD6⟩;have vf:∀(r:List (List V)),i0 (.aX M.length 0 0 N) (M++[.arr 1 r 0 0])=some (.int .i64 N):=fun r=>by simp[i0]
 simp-implicitDefEqProofs (disch:=omega) only[go_sem,pa,vf];refine gg N (fun i vs dP=>∃D:Nat->List dp,vs=[.int .i64 N,.map 0,.aX M.length 0 0 N,.int .i64 N,.int .i64 i]/\dP=M++[.arr 1 (((c1 N).take i).map (fun k=>[kx (D k)])++fV (N -i) [.slice [] .nil]) 0 0]/\∀k,k<i->yI l N k (D k)) ⟨fun _=>[],rfl,by simp,fun k ao=>absurd ao (fb _)⟩ ?_ ?_
 . rintro i vs dP hi aw ⟨D,rfl,rfl,en⟩
   simp-implicitDefEqProofs (disch:=omega) only[go_sem,aw];refine ew (aH0 l N i db hi ey hlen (aJr aD6 1 _ 0 0)) ?_;rintro v _ ⟨rfl,J5,rfl,S1⟩;simp-implicitDefEqProofs (disch:=omega) only[go_sem];refine fI (aIl J5 .cv (by rw[S1.len];exact db)) ?_;rintro v rfl;let rW:Nat->List dp:=fun k=>if k=i then J5 else D k
   have ab:(c1 N)[i]? =some i:=by simp[hi]
   have hm:((c1 N).take i).map (fun k=>[kx (D k)])=((c1 N).take i).map (fun k=>[kx (rW k)]):=List.map_congr_left fun k ao=>by
    have:k<i:=by
     obtain⟨q,aG,aGG⟩:=Ad ao;have:=(bn.1 aGG);obtain⟨U,af⟩:=this;simp at af;omega
    simp[rW,show k≠i by omega]
   rw[hm];have bU:=Lh (c1 N) (fun k=>[kx (rW k)]) [.slice [] .nil] (i:=i) (by omega);have b4:=Lg (l:=c1 N) (f:=fun k=>[kx (rW k)]) (z:=[.slice [] .nil]) (i:=i) (by omega);have cG:=Li (f:=fun k=>[kx (rW k)]) (z:=[.slice [] .nil]) ab;rw[iX] at bU b4 cG;have dl:decide (i<N)=true:=decide_eq_true hi;have ba:[kx (rW i)]=[.slice (J5.map fun x=>[.int .i64 x.len]) .cv]:=by simp[rW,kx]
   rw[ba] at cG;have eZ:=fun L=>e0 M L;have kk:=fun L=>kg M L;simp-implicitDefEqProofs (disch:=omega) only[go_sem,eZ,kk,bU,b4,cG,dl];refine c6 hi ⟨rW,rfl,rfl,fun k ao=>?_⟩;by_cases gx:k=i
   . subst gx;simp only[rW,if_true];exact S1
   . simp only[rW,if_neg gx];exact en k (by omega)
 rintro vs dP ⟨D,rfl,rfl,en⟩;have a7:((c1 N).take N).map (fun k=>[kx (D k)])++fV (N -N) [V.slice [] .nil]=(c1 N).map fun k=>[kx (D k)]:=by
  rw[g1 (by rw[iX];omega),mH];simp
 rw[a7];simp-implicitDefEqProofs (disch:=omega) only[go_sem,dg];rw[aAW];have aC:fu (M++[.arr 1 ((c1 N).map fun k=>[kx (D k)]) 0 0]) 0 20 (.tuple [.aX M.length 0 0 N,.int .i64 0])=some (.tuple [.slice ((c1 N).map fun i=>[kx (D i)]) .cv,.int .i64 0]):=by
  have:=zf (M:=M++[.arr 1 ((c1 N).map fun k=>[kx (D k)]) 0 0]) (base:=0) (n:=18) (start:=0) (len:=N) (id:=M.length) (ver:=0) (by simp) (e0 M _) (by simp);rw[l9,g1 (by simp)] at this;show((ke (fu _ 0 19) [_,_]).map V.tuple)=_;simp only[ke];rw[this];rfl
 show lL (fu (M++[.arr 1 ((c1 N).map fun k=>[kx (D k)]) 0 0]) 0 20 (.tuple [.aX M.length 0 0 N,.int .i64 0])) _;rw[aC];exact⟨by simp[V.under,cS,cL],⟨D,rfl,en⟩,by simp,rfl⟩
end Go.aQ.C
namespace Go.aQ.C
open Go.aQ
def kB(k:Int×Int):V:=.agg [.int .i64 k.1,.int .i64 k.2,.bool false]
theorem Vp:j0 (.cells [.int,.int,.bool]) kB:=⟨fun _=>rfl,fun x y=>by
 obtain⟨a,b⟩:=x;obtain⟨c,d⟩:=y;simp[kB,hV,gw,hA,Bool.decide_and]⟩
def uK(cl:Bool)(p:Path):Prop:=cl=true->p.free=true
theorem UZ{α:Type}[DecidableEq α](x:α)(v:V):∀l:List (α×V),∀e∈hW x v l,e=(x,v)∨e∈l
 |[],e,he=>by simp[hW] at he;exact .inl he
 |a::l,e,he=>by
  rw[hW] at he;split at he
  . rcases jm.1 he with h|h
    . exact .inl h
    . exact .inr (by simp[h])
  . rcases jm.1 he with h|h
    . exact .inr (by simp[h])
    . rcases UZ x v l e h with h|h
      . exact .inl h
      . exact .inr (by simp[h])
theorem Uy{α:Type}[DecidableEq α](x:α)(v:V):∀l:List (α×V),(hW x v l).length<=l.length+1
 |[]=>by simp[hW]
 |a::l=>by
  rw[hW];split
  . simp
  . simp only[dz];have:=Uy x v l;omega
theorem Lv{α:Type}[DecidableEq α]{x:α}{v:V}{l:List (α×V)}(h:fR x l=some v):(x,v)∈l:=by
 unfold fR at h;obtain⟨e,he,rfl⟩:=dJ.1 h;have hm:=List.mem_of_find?_eq_some he;have ax:=List.find?_some he;simp only[decide_eq_true_eq] at ax;subst ax;exact hm
structure yF(l:List Path)(cl:Bool)(i:Nat)(mp:List ((Int×Int)×V)):Prop where
 has:∀(k:Nat)(p:Path),k<i->l[k]? =some p->uK cl p->∃n,fR (p.src,p.dst) mp=some (.int .i64 n)/\n<=p.dI
 of:∀e∈mp,∃p∈l,uK cl p/\e.1=(p.src,p.dst)/\e.2=.int .i64 p.dI
 len:mp.length<=i
theorem KC{l:List Path}{cl:Bool}{i:Nat}{mp:List ((Int×Int)×V)}{p:Path}(h:yF l cl i mp)(ax:l[i]? =some p)(ak:uK cl p->∃n,fR (p.src,p.dst) mp=some (.int .i64 n)/\n<=p.dI):yF l cl (i+1) mp:=
 ⟨fun k q ao aG aC=>by
   rcases jn.1 ao with U|U
   . exact h.has k q U aG aC
   . subst U;rw[ax] at aG;cases aG;exact ak aC,h.of,Nat.le_succ_of_le h.len⟩
theorem E1{l:List Path}{cl:Bool}{i:Nat}{mp:List ((Int×Int)×V)}{p:Path}(h:yF l cl i mp)(ax:l[i]? =some p)(aC:uK cl p)(ak:∀n,fR (p.src,p.dst) mp=some (.int .i64 n)->p.dI<=n):yF l cl (i+1) (hW (p.src,p.dst) (.int .i64 p.dI) mp):=
 ⟨fun k q ao aG vc=>by
   rw[u0];split
   . rename_i he
     refine⟨p.dI,rfl,?_⟩;rcases jn.1 ao with U|U
     . obtain⟨n,af,ay⟩:=h.has k q U aG vc
       rw[he] at af;have:=ak n af;omega
     . subst U;rw[ax] at aG;cases aG;omega
   . rename_i cr
     rcases jn.1 ao with U|U
     . exact h.has k q U aG vc
     . subst U;rw[ax] at aG;cases aG;exact absurd rfl cr,
  fun e he=>by
   rcases UZ _ _ _ e he with U|U
   . subst U;exact⟨p,dO ax,aC,rfl,rfl⟩
   . exact h.of e U,jH (Uy _ _ _) (Nat.succ_le_succ h.len)⟩
structure J7(l:List Path)(cl:Bool)(E:List Edge):Prop where
 has:∀p∈l,uK cl p->∃e∈E,e.src=p.src/\e.dst=p.dst/\e.w<=p.dI
 of:∀e∈E,∃p∈l,uK cl p/\e.src=p.src/\e.dst=p.dst/\e.w=p.dI
def OO(e:(Int×Int)×V)(x:Edge):Prop:=e.1=(x.src,x.dst)/\e.2=.int .i64 x.w
structure Pd(mp:List ((Int×Int)×V))(seen:List Nat)(E:List Edge):Prop where
 has:∀i∈seen,∀e,mp[i]? =some e->∃x∈E,OO e x
 of:∀x∈E,∃e∈mp,OO e x
theorem aA3{l:List Path}{cl:Bool}{mp:List ((Int×Int)×V)}{seen:List Nat}{E:List Edge}(bY:yF l cl l.length mp)(lP:Pd mp seen E)(d9:∀i,i<mp.length->i∈seen):J7 l cl E:=
 ⟨fun p ax aC=>by
   obtain⟨k,ao⟩:=ij ax;obtain⟨n,U,af⟩:=bY.has k p (bn.1 ao).1 ao aC;obtain⟨i,hi⟩:=ij (Lv U);obtain⟨x,ab,ay,be⟩:=lP.has i (d9 i (bn.1 hi).1) _ hi;refine⟨x,ab,(congrArg Prod.fst ay).symm,(congrArg Prod.snd ay).symm,?_⟩;have bv:n=x.w:=by injection be
   omega,
  fun x ab=>by
   obtain⟨e,he,U,af⟩:=lP.of x ab;obtain⟨p,ax,ay,be,bv⟩:=bY.of e he;rw[be] at U;rw[bv] at af;refine⟨p,ax,ay,(congrArg Prod.fst U).symm,(congrArg Prod.snd U).symm,?_⟩;injection af with _ b7
   exact b7.symm⟩
theorem aBO{α:Type}(l:List α):l.filter (fun _=>true)=l:=by simp
def AA(n:Nat)(seen:List Nat):Nat:=((c1 n).filter fun i=>decide (i∉seen)).length
theorem W8{n i:Nat}{seen:List Nat}(hi:i<n)(aK:i∉seen):AA n (seen++[i])<AA n seen:=by
 unfold AA;have key:∀l:List Nat,(l.filter fun j=>decide (j∉seen++[i])).length<=(l.filter fun j=>decide (j∉seen)).length/\(i∈l->(l.filter fun j=>decide (j∉seen++[i])).length<(l.filter fun j=>decide (j∉seen)).length):=by
  intro l;induction l with
  |nil=>exact⟨cF _,fun h=>by cases h⟩
  |cons a l bq=>
   obtain⟨U,af⟩:=bq;by_cases bk:a=i
   . subst bk
     have a6:decide (a∉seen++[a])=false:=by simp
     have ba:decide (a∉seen)=true:=by simp[aK]
     simp only[List.filter_cons,a6,ba,if_true,dz,i_,if_false];exact⟨by omega,fun _=>by omega⟩
   . have a6:decide (a∉seen++[i])=decide (a∉seen):=by simp[bk]
     simp only[List.filter_cons,a6];refine⟨?_,fun hm=>?_⟩
     . split<;>(try simp only[dz])<;>omega
     . have:=af ((jm.1 hm).resolve_left fun q=>bk q.symm)
       split<;>(try simp only[dz])<;>omega
 exact(key _).2 (by simp[hi])
theorem aI6{α:Type}(cE:α->V)(l:List (α×V)):(cC cE l).length=l.length:=by simp[cC]
theorem aI5{α:Type}{cE:α->V}{l:List (α×V)}{i:Nat}{cx:V×V}(h:(cC cE l)[i]? =some cx):∃e,l[i]? =some e/\cx=(cE e.1,e.2):=by
 unfold cC at h;rw[gY] at h;obtain⟨e,he,rfl⟩:=dJ.1 h;exact⟨e,he,rfl⟩
theorem aIZ{zero:List V}{sz bytes n:Nat}{M:Mem}(aK:n<=5000)(aj:bytes<=1000):m1 zero sz bytes (.int .i64 0) (.int .i64 (n:Int)) M=some (.aX M.length 0 0 0,M++[.arr sz [] 0 0]):=by
 have U:(n:Int)*(bytes:Int)<=5000*1000:=Int.mul_le_mul (by omega) (by omega) (by omega) (by omega);have b4:decide ((0:Int)<=(n:Int))=true:=decide_eq_true (by omega);have cG:decide ((n:Int)*(bytes:Int)<=2^48)=true:=decide_eq_true (by omega);have dl:decide ((n:Int)<2^62)=true:=decide_eq_true (by omega);simp only[m1,b4,cG,dl,eR,Int.le_refl,decide_true,cond_true];rfl
structure XV(l:List Path)(N:Nat)(cl:Bool)(D:Nat->List dp):Prop where
 aN6:∃E,J7 l cl E/\∀i,i<N->yI E N i (D i)
def uR(N:Nat)(D:Nat->List dp):V:=.slice ((c1 N).map fun i=>[kx (D i)]) .cv
theorem QS(l:List Path)(c:c3)(N:Nat)(cl:Bool)(db:N<=64)(ey:∀p∈l,p.jR N)(hlen:l.length<=4096):
 bQ av Du [.slice (l.map Path.row) c,.int .i64 N,.bool cl] (fun v=>∃D,v=uR N D/\XV l N cl D):=by
 refine bZ aCy (by simp[FT]) ?_;simp-implicitDefEqProofs (disch:=omega) only[go_sem,FT];refine ek l (fun i vs M=>∃mp,vs=[.int .i64 N,.bool cl,.map 0,.slice (l.map Path.row) c,.int .i64 l.length,.int .i64 i]/\M=[.map (cC kB mp)]/\yF l cl i mp) ⟨[],rfl,rfl,⟨(fun k p ao=>absurd ao (fb _)),(fun e he=>by cases he),cF _⟩⟩ ?_ ?_
 . rintro i p vs M ax hi aw ⟨mp,rfl,rfl,bY⟩
   simp-implicitDefEqProofs (disch:=omega) only[go_sem,aw,ax,Path.row];have a6:=z_ Vp (.int .i64 0) true (p.src,p.dst) mp;simp only[kB] at a6;have ba:=Ol Vp (p.src,p.dst) (v:=.int .i64 p.dI) mp rfl;simp only[kB] at ba;have ML:∀n,nb n (cC kB mp)=true:=fun n=>v_ n _ fun e he=>by
    obtain⟨o,_,_,_,aq⟩:=bY.of e he;rw[aq];rfl
   have p7:∀n,nb n (cC kB (hW (p.src,p.dst) (.int .i64 p.dI) mp))=true:=fun n=>v_ n _ (JW _ rfl _ fun e he=>by
    obtain⟨o,_,_,_,aq⟩:=bY.of e he;rw[aq];rfl);refine cp (fun aW=>?_) (fun aW=>?_);rotate_left
   . simp-implicitDefEqProofs (disch:=omega) only[go_sem]
     have aC:uK cl p:=fun q=>by rw[aW] at q;cases q
     cases ao:fR (p.src,p.dst) mp with
     |none=>
      rw[ao] at a6;simp only at a6;simp-implicitDefEqProofs (disch:=omega) only[go_sem,a6,ba];exact dC hi (by simp[hK,dt,aY,cS,V.under,cL,a2.under,p7]) ⟨_,rfl,rfl,E1 bY ax aC (fun n aK=>by rw[ao] at aK;cases aK)⟩
     |some v=>
      obtain⟨o,az,_,_,aq⟩:=bY.of _ (Lv ao);simp only at aq;subst aq;rw[ao] at a6;simp only at a6;simp-implicitDefEqProofs (disch:=omega) only[go_sem,a6];refine a5 (fun bN=>?_) (fun bN=>?_)
      . simp-implicitDefEqProofs (disch:=omega) only[go_sem,ba]
        exact dC hi (by simp[hK,dt,aY,cS,V.under,cL,a2.under,p7]) ⟨_,rfl,rfl,E1 bY ax aC (fun n aK=>by rw[ao] at aK;injection aK with aK;injection aK with _ aK;omega)⟩
      . simp-implicitDefEqProofs (disch:=omega) only[go_sem]
        exact dC hi (by simp[hK,dt,aY,cS,V.under,cL,a2.under,ML]) ⟨_,rfl,rfl,KC bY ax (fun _=>⟨_,ao,by omega⟩)⟩
   simp-implicitDefEqProofs (disch:=omega) only[go_sem];refine cp (fun a9=>?_) (fun a9=>?_);rotate_left
   . simp-implicitDefEqProofs (disch:=omega) only[go_sem]
     exact dC hi (by simp[hK,dt,aY,cS,V.under,cL,a2.under,ML]) ⟨_,rfl,rfl,KC bY ax (fun aC=>by rw[aC aW] at a9;cases a9)⟩
   simp-implicitDefEqProofs (disch:=omega) only[go_sem];have aC:uK cl p:=fun _=>a9;cases ao:fR (p.src,p.dst) mp with
   |none=>
    rw[ao] at a6;simp only at a6;simp-implicitDefEqProofs (disch:=omega) only[go_sem,a6,ba];exact dC hi (by simp[hK,dt,aY,cS,V.under,cL,a2.under,p7]) ⟨_,rfl,rfl,E1 bY ax aC (fun n aK=>by rw[ao] at aK;cases aK)⟩
   |some v=>
    obtain⟨o,az,_,_,aq⟩:=bY.of _ (Lv ao);simp only at aq;subst aq;rw[ao] at a6;simp only at a6;simp-implicitDefEqProofs (disch:=omega) only[go_sem,a6];refine a5 (fun bN=>?_) (fun bN=>?_)
    . simp-implicitDefEqProofs (disch:=omega) only[go_sem,ba]
      exact dC hi (by simp[hK,dt,aY,cS,V.under,cL,a2.under,p7]) ⟨_,rfl,rfl,E1 bY ax aC (fun n aK=>by rw[ao] at aK;injection aK with aK;injection aK with _ aK;omega)⟩
    . simp-implicitDefEqProofs (disch:=omega) only[go_sem]
      exact dC hi (by simp[hK,dt,aY,cS,V.under,cL,a2.under,ML]) ⟨_,rfl,rfl,KC bY ax (fun _=>⟨_,ao,by omega⟩)⟩
 rintro vs M ⟨mp,rfl,rfl,bY⟩;have dh:(cC kB mp).length=mp.length:=aI6 _ _;have aGe:=bY.len;have pa:=aIZ (zero:=[.int .i64 0,.int .i64 0,.int .i64 0]) (sz:=3) (bytes:=24) (n:=mp.length) (M:=[.map (cC kB mp)]) (by omega) (by omega);simp-implicitDefEqProofs (disch:=omega) only[go_sem,dg,DR,Eb,pa,dh];refine oC (fun m vs M=>∃(seen:List Nat)(E:List Edge)(ver:Nat),m=AA mp.length seen/\vs=[.int .i64 N,.aX 1 ver 0 E.length,.ptr 2 0]/\M=[.map (cC kB mp),.arr 3 (E.map Edge.row) ver 0,.iter 0 mp.length seen]/\Pd mp seen E/\E.length+m<=mp.length) mp.length
  ⟨[],[],0,by simp[AA,aBO],rfl,rfl,⟨(fun i hi=>by cases hi),(fun x ab=>by cases ab)⟩,by simp⟩ ?_;rintro m vs M ⟨seen,E,ver,hm,rfl,rfl,lP,hle⟩;simp-implicitDefEqProofs (disch:=omega) only[go_sem];have lv:[a2.map (cC kB mp),.arr 3 (E.map Edge.row) ver 0,.iter 0 mp.length seen][2]? =some (.iter 0 (cC kB mp).length seen):=by rw[dh];rfl
 refine aJB lv rfl (fun d9=>?_) (fun i cx p0 sr=>?_)
 . rw[dh] at d9
   have iQ:=aA3 bY lP d9;have aDX:∀e∈E,e.jR N:=fun e he=>by
    obtain⟨p,ax,_,U,af,ay⟩:=iQ.of e he;obtain⟨bU,b4,cG,dl⟩:=ey p ax;exact⟨by rw[U];exact bU,by rw[af];exact b4,by rw[ay];exact cG,by rw[ay];exact dl⟩
   obtain⟨fz,Mt⟩:∃fz,oj (.aX 1 ver 0 E.length) [.map (cC kB mp),.arr 3 (E.map Edge.row) ver 0,.iter 0 mp.length seen]=some (.slice (E.map Edge.row) .cv,[.map (cC kB mp),.arr 3 (E.map Edge.row) ver fz,.iter 0 mp.length seen]):=by
    cases E with
    |nil=>exact⟨0,by simp[oj]⟩
    |cons e E=>exact⟨E.length+1,by simp[oj];rw[g1 (by simp)]⟩
   simp-implicitDefEqProofs (disch:=omega) only[go_sem,Mt];refine fI (XD E .cv N db aDX (by omega)) ?_;rintro v ⟨D,rfl,en⟩;simp-implicitDefEqProofs (disch:=omega) only[go_sem];exact⟨D,rfl,E,iQ,en⟩
 rw[dh];obtain⟨e,he,rfl⟩:=aI5 p0;obtain⟨p,ax,aC,U,af⟩:=bY.of e (dO he);obtain⟨k,v⟩:=e;simp only at U af;subst U af;have kZ:i<mp.length:=(bn.1 he).1;have aE4:∀B:a2,y5 (.ptr 2 0) [.map (cC kB mp),B,.iter 0 mp.length (seen++[i])]=some (.tuple [.agg [.int .i64 p.src,.int .i64 p.dst,.bool false],.int .i64 p.dI],[.map (cC kB mp),B,.iter 0 mp.length (seen++[i])]):=fun B=>by
  have U:(cC kB mp).length.beq mp.length=true:=by rw[dh];simp
  simp[y5,p0,dh,kB]
 have iS:∀K:a2,d0 false 3 24 (.aX 1 ver 0 E.length) (.slice [[.int .i64 p.src,.int .i64 p.dst,.int .i64 p.dI]] .full) [.map (cC kB mp),.arr 3 (E.map Edge.row) ver 0,.iter 0 mp.length (seen++[i]),K]=
  some (.aX 1 (ver+1) 0 (E.length+1),[.map (cC kB mp),.arr 3 ((E++[(⟨p.src,p.dst,p.dI⟩:Edge)]).map Edge.row) (ver+1) 0,.iter 0 mp.length (seen++[i]),K]):=fun K=>by
  have aw:decide ((E.length+1)*48<=2^48)=true:=decide_eq_true (by omega);simp only[d0,eJ,fq,dz,gZ,ev,beq_self_eq_true,cond_true,g3,List.getElem?_cons_succ,ja,eD,eR,Nat.reduceMul,aw];simp[Edge.row]
 simp-implicitDefEqProofs (disch:=omega) only[go_sem,aE4,iS];refine JB (AA mp.length (seen++[i])) (by rw[hm];exact W8 kZ sr) ?_ ⟨seen++[i],E++[⟨p.src,p.dst,p.dI⟩],ver+1,rfl,by rw[dT];rfl,rfl,⟨fun k ao e tz=>?_,fun x ab=>?_⟩,?_⟩
 . have p7:∀n,nb n (cC kB mp)=true:=fun n=>v_ n _ fun e he=>by
    obtain⟨o,_,_,_,aq⟩:=bY.of e he;rw[aq];rfl
   simp[hK,dt,aY,cS,V.under,cL,a2.under,p7]
 . rcases g_.1 ao with h|h
   . obtain⟨x,ab,af⟩:=lP.has k h e tz
     exact⟨x,by simp[ab],af⟩
   . rw[ht] at h;subst h
     rw[he] at tz;cases tz;exact⟨⟨p.src,p.dst,p.dI⟩,by simp,rfl,rfl⟩
 . rcases g_.1 ab with h|h
   . exact lP.of x h
   . rw[ht] at h;subst h
     exact⟨_,dO he,rfl,rfl⟩
 . have:=W8 kZ sr
   rw[dT,List.length_singleton];omega
end Go.aQ.C
namespace Go.aQ.C
open Go.aQ
def jc(a b:Int):Int:=if a<b then-1 else if b<a then 1 else 0
def sE:List Int->Int
 |[]=>0
 |x::l=>if x=0 then sE l else x
def tc(p q:Path):Int:=sE [jc p.src q.src,jc p.dst q.dst,jc p.dI q.dI]
theorem I2(a:Int):bQ av Dj [.int .i64 a] (fun v=>v=.bool false):=by
 refine bZ aCf (by simp[Fz]) ?_;simp-implicitDefEqProofs (disch:=omega) only[go_sem,Fz]
theorem Ez(a b:Int):bQ av zN [.int .i64 a,.int .i64 b] (fun v=>v=.int .i64 (jc a b)):=by
 refine bZ aCd (by simp[Fx]) ?_;simp-implicitDefEqProofs (disch:=omega) only[go_sem,Fx];first|refine b0 (I2 a) ?_|refine bV (I2 a) ?_
 simp-implicitDefEqProofs (disch:=omega) only[go_sem];first|refine b0 (I2 b) ?_|refine bV (I2 b) ?_
 simp-implicitDefEqProofs (disch:=omega) only[go_sem];refine a5 (fun g=>?_) (fun g=>?_)
 . simp-implicitDefEqProofs (disch:=omega) only[go_sem]
   rw[jc,if_pos g]
 simp-implicitDefEqProofs (disch:=omega) only[go_sem];refine a5 (fun a9=>?_) (fun a9=>?_)
 . simp-implicitDefEqProofs (disch:=omega) only[go_sem]
   rw[jc,if_neg g,if_pos a9]
 simp-implicitDefEqProofs (disch:=omega) only[go_sem];rw[jc,if_neg g,if_neg a9]
theorem O0(l:List Int)(c:c3)(ag:l.length<=10):bQ av HA [.slice (l.map fun n=>[.int .i64 n]) c] (fun v=>v=.int .i64 (sE l)):=by
 refine bZ aCe (by simp[Fy]) ?_;simp-implicitDefEqProofs (disch:=omega) only[go_sem,Fy];refine ek l (fun i vs M=>vs=[.int .i64 0,.slice (l.map fun n=>[.int .i64 n]) c,.int .i64 l.length,.int .i64 i]/\M=[]/\sE l=sE (l.drop i)) ⟨rfl,rfl,rfl⟩ ?_ ?_;rotate_left
 . rintro vs M ⟨rfl,rfl,h⟩
   simp-implicitDefEqProofs (disch:=omega) only[go_sem,dg];rw[h,List.drop_length];rfl
 rintro i n vs M aK hi aw ⟨rfl,rfl,h⟩;have u7:l.drop i=n::l.drop (i+1):=by
  have:=qx hi;rw[this];have e:l[i]=n:=by have:=gd hi;rw[this] at aK;cases aK;rfl
  rw[e]
 simp-implicitDefEqProofs (disch:=omega) only[go_sem,aw,aK];refine a5 (fun g=>?_) (fun g=>?_)
 . simp-implicitDefEqProofs (disch:=omega) only[go_sem]
   refine dC hi rfl ⟨rfl,rfl,?_⟩;rw[h,u7,sE,if_pos g]
 . simp-implicitDefEqProofs (disch:=omega) only[go_sem]
   rw[h,u7,sE,if_neg g]
theorem yZ(p q:Path):bQ av Dt [.agg p.row,.agg q.row] (fun v=>v=.int .i64 (tc p q)):=by
 refine bZ aCw (by simp[FR]) ?_;simp-implicitDefEqProofs (disch:=omega) only[go_sem,FR,Path.row];refine bV (Ez p.src q.src) ?_;simp-implicitDefEqProofs (disch:=omega) only[go_sem];refine bV (Ez p.dst q.dst) ?_;simp-implicitDefEqProofs (disch:=omega) only[go_sem];first|refine b0 (Ez p.dI q.dI) ?_|refine bV (Ez p.dI q.dI) ?_
 simp-implicitDefEqProofs (disch:=omega) only[go_sem];first|refine b0 (O0 [jc p.src q.src,jc p.dst q.dst,jc p.dI q.dI] .full (by simp)) ?_|refine bV (O0 [jc p.src q.src,jc p.dst q.dst,jc p.dI q.dI] .full (by simp)) ?_
 simp-implicitDefEqProofs (disch:=omega) only[go_sem];rfl
structure j2(M:Mem)(x:V)(l:List Path):Prop where
 len:∀L,i0 x (M++L)=some (.int .i64 l.length)
 at_:∀(i:Nat)(p:Path),l[i]? =some p->∃a,∀L,jj 4 x (.int .i64 i) (M++L)=some a/\hn 4 true a (M++L)=some (.agg p.row)
 Az:V.under M.length x=true
 own:cL M.length M=true
theorem aLO{M:Mem}(h:cL M.length M=true):j2 M (.slice [] .nil) []:=⟨fun _=>rfl,fun i p hi=>by simp at hi,rfl,h⟩
theorem aLN{M:Mem}{a ver fz:Nat}{l:List Path}(h:cL M.length M=true)(bb:M[a]? =some (.arr 4 (l.map Path.row) ver fz)):j2 M (.aX a ver 0 l.length) l:=by
 have bk:=(bn.1 bb).1;refine⟨fun L=>by simp[i0,b6 bb L],fun i p hi=>?_,by simp[V.under];exact bk,h⟩;have kZ:=(bn.1 hi).1;have a4:decide (0<=(i:Int))=true:=decide_eq_true (by omega);have U:decide (i<l.length)=true:=decide_eq_true kZ;refine⟨.fo a ver i 0,fun L=>⟨?_,?_⟩⟩
 . simp only[jj,a4,cond_true,b6 bb L,beq_self_eq_true,lI,U,eD,ev,cF,decide_true,eR,cond_true]
 . simp only[hn,b6 bb L,beq_self_eq_true,cond_true,gY,hi,mI]
   rfl
theorem j2.app{M L:Mem}{x:V}{l:List Path}(h:j2 M x l)(dh:cL (M.length+L.length) L=true):j2 (M++L) x l:=by
 refine⟨fun K=>by rw[eB];exact h.len _,fun i p hi=>?_,?_,?_⟩
 . obtain⟨a,bk⟩:=h.at_ i p hi
   exact⟨a,fun K=>by rw[eB];exact bk _⟩
 . rw[dT];exact yu (by omega) _ h.Az
 . rw[rt,dT,ru (Nat.le_add_right _ _) M h.own,dh];rfl
def s5(l:List Path):Prop:=∀(i j:Nat)(p q:Path),i<j->l[i]? =some p->l[j]? =some q->0<=tc q p
abbrev oS:V:=.dH Dt []
theorem Nt{M:Mem}{x:V}{l:List Path}{i j:Nat}(us:V)(H:j2 M x l)(ak:s5 l)(mT:i<j)(ap:j<l.length):
 cj av z2 [x,.int .i64 i,.int .i64 j,us,oS] M (fun v ah=>v=.tuple [.int .i64 i,.int .i64 j]/\ah=M):=by
 obtain⟨p,ax⟩:∃p,l[i]? =some p:=⟨l[i]'(by omega),by simp⟩;obtain⟨q,aG⟩:∃q,l[j]? =some q:=⟨l[j],by simp⟩;obtain⟨a,bk⟩:=H.at_ i p ax;obtain⟨b,aj⟩:=H.at_ j q aG;have bk:=bk [];have aj:=aj [];simp only[fU] at bk aj;have ar:=ak i j p q mT ax aG;refine bZ aDa (by simp[Gn]) ?_;simp-implicitDefEqProofs (disch:=omega) only[go_sem,Gn,bk.1,bk.2,aj.1,aj.2];first|refine b0 (yZ q p) ?_|refine bV (yZ q p) ?_
 simp-implicitDefEqProofs (disch:=omega) only[go_sem];refine a5 (fun g=>absurd g (by omega)) (fun _=>?_);simp-implicitDefEqProofs (disch:=omega) only[go_sem];rw[g0];exact⟨H.own,rfl⟩
theorem Nh{M:Mem}{x:V}{l:List Path}{i j k:Nat}(us:V)(H:j2 M x l)(ak:s5 l)(mT:i<j)(zx:j<k)(ao:k<l.length):
 cj av DG [x,.int .i64 i,.int .i64 j,.int .i64 k,us,oS] M (fun v ah=>v=.int .i64 j/\ah=M):=by
 have eQ:M.take M.length=M:=g0;refine bZ aC_ (by simp[Gm]) ?_;simp-implicitDefEqProofs (disch:=omega) only[go_sem,Gm];refine me (Nt us H ak mT (by omega)) ?_;simp-implicitDefEqProofs (disch:=omega) only[go_sem];refine me (Nt us H ak zx ao) ?_;simp-implicitDefEqProofs (disch:=omega) only[go_sem];refine me (Nt us H ak mT (by omega)) ?_;simp-implicitDefEqProofs (disch:=omega) only[go_sem,eQ,H.own]
theorem Ng{M:Mem}{x:V}{l:List Path}{j:Nat}(us:V)(H:j2 M x l)(ak:s5 l)(a4:0<j)(ao:j+1<l.length)(ag:l.length<=4096):
 cj av z1 [x,.int .i64 j,us,oS] M (fun v ah=>v=.int .i64 j/\ah=M):=by
 have eQ:M.take M.length=M:=g0;have a6:IntKind.i64.wrap ((j:Int) -1)=((j -1:Nat):Int):=by rw[nz];omega
 have ba:IntKind.i64.wrap ((j:Int)+1)=((j+1:Nat):Int):=by rw[nz];omega
 refine bZ aC9 (by simp[Gl]) ?_;simp-implicitDefEqProofs (disch:=omega) only[go_sem,Gl,a6,ba];refine me (Nh us H ak (by omega) (by omega) ao) ?_;simp-implicitDefEqProofs (disch:=omega) only[go_sem,eQ,H.own]
theorem aKp(n:Nat)(aK:n<=1000000000):dB .quo .none (.int .i64 (n:Int)) (.int .i64 4)=some (.int .i64 ((n/4:Nat):Int)):=by
 rw[KD _ _ _ _ (by omega)];have:Int.tdiv (n:Int) 4=((n/4:Nat):Int):=rfl;rw[this,qv _ (by omega) (by omega)]
theorem aAc{M:Mem}{x:V}{l:List Path}(H:j2 M x l)(ak:s5 l)(ag:l.length<=4096)(aK:12<l.length):
 cj av IG [x,.int .i64 0,.int .i64 l.length,oS] M (fun v ah=>v=.tuple [.int .i64 ((l.length/4*2:Nat):Int),.int .i64 1]/\ah=M):=by
 have eQ:∀L:Mem,(M++L).take M.length=M:=fun L=>kI rfl L;have le:∀L:Mem,decide (M.length<=M.length+L.length)=true:=fun L=>decide_eq_true (by omega);have q:=aKp l.length (by omega);have eZ:=fun L=>e0 M L;have jA:IntKind.i64.wrap (((l.length/4:Nat):Int)*1)=((l.length/4*1:Nat):Int):=by rw[nz];omega
 have k2:IntKind.i64.wrap (((l.length/4:Nat):Int)*2)=((l.length/4*2:Nat):Int):=by rw[nz];omega
 have nH:IntKind.i64.wrap (((l.length/4:Nat):Int)*3)=((l.length/4*3:Nat):Int):=by rw[nz];omega
 have H1:j2 (M++[.box [.int .i64 0]]) x l:=H.app (by simp[cL,a2.under,cS,V.under]);refine bZ aC7 (by simp[Gj]) ?_;simp-implicitDefEqProofs (disch:=omega) only[go_sem,Gj,q,jA,k2,nH,Int.sub_zero,Int.zero_add];refine a5 (fun _=>?_) (fun g=>absurd g (by omega));simp-implicitDefEqProofs (disch:=omega) only[go_sem];refine a5 (fun g=>?_) (fun g=>?_)
 . simp-implicitDefEqProofs (disch:=omega) only[go_sem]
   refine me (Ng _ H1 ak (by omega) (by omega) ag) ?_;simp-implicitDefEqProofs (disch:=omega) only[go_sem];refine me (Ng _ H1 ak (by omega) (by omega) ag) ?_;simp-implicitDefEqProofs (disch:=omega) only[go_sem];refine me (Ng _ H1 ak (by omega) (by omega) ag) ?_;simp-implicitDefEqProofs (disch:=omega) only[go_sem];refine me (Nh _ H1 ak (by omega) (by omega) (by omega)) ?_;simp-implicitDefEqProofs (disch:=omega) only[go_sem,eZ,eQ,H.own]
 simp-implicitDefEqProofs (disch:=omega) only[go_sem];refine me (Nh _ H1 ak (by omega) (by omega) (by omega)) ?_;simp-implicitDefEqProofs (disch:=omega) only[go_sem,eZ,eQ,H.own]
theorem aJV{M:Mem}{x:V}{l:List Path}(H:j2 M x l)(ak:s5 l)(ag:l.length<=4096)(aK:1<l.length):
 cj av II [x,.int .i64 0,.int .i64 l.length,oS] M (fun v ah=>v=.bool true/\ah=M):=by
 have eQ:M.take M.length=M:=g0;refine bZ aDb (by simp[Gp]) ?_;simp-implicitDefEqProofs (disch:=omega) only[go_sem,Gp,Int.zero_add];refine oC (fun _ vs N=>N=M/\vs=[x,.int .i64 0,.int .i64 l.length,oS,.int .i64 1,.int .i64 0]) 0 ⟨rfl,rfl⟩ ?_;rintro _ vs N ⟨rfl,rfl⟩;simp-implicitDefEqProofs (disch:=omega) only[go_sem];refine oC (fun m vs dP=>dP=N/\∃i:Nat,1<=i/\i<=l.length/\m=l.length -i/\vs=[x,.int .i64 0,.int .i64 l.length,oS,.int .i64 i,.int .i64 0]) (l.length -1) ⟨rfl,1,by omega,by omega,rfl,rfl⟩ ?_;rintro m vs dP ⟨rfl,i,U,af,rfl,rfl⟩;simp-implicitDefEqProofs (disch:=omega) only[go_sem];refine a5 (fun g=>?_) (fun g=>?_)
 . have a6:IntKind.i64.wrap ((i:Int) -1)=((i -1:Nat):Int):=by rw[nz];omega
   have ba:IntKind.i64.wrap ((i:Int)+1)=((i+1:Nat):Int):=by rw[nz];omega
   obtain⟨p,ax⟩:∃p,l[i -1]? =some p:=⟨l[i -1]'(by omega),by simp⟩;obtain⟨q,aG⟩:∃q,l[i]? =some q:=⟨l[i]'(by omega),by simp⟩;obtain⟨a,bk⟩:=H.at_ _ p ax;obtain⟨b,aj⟩:=H.at_ _ q aG;have bk:=bk [];have aj:=aj [];simp only[fU] at bk aj;have ar:=ak (i -1) i p q (by omega) ax aG;simp-implicitDefEqProofs (disch:=omega) only[go_sem,a6,bk.1,bk.2,aj.1,aj.2];first|refine b0 (yZ q p) ?_|refine bV (yZ q p) ?_
   simp-implicitDefEqProofs (disch:=omega) only[go_sem];refine a5 (fun g=>absurd g (by omega)) (fun _=>?_);simp-implicitDefEqProofs (disch:=omega) only[go_sem,ba];exact yf (l.length -(i+1)) (by omega) ⟨rfl,i+1,by omega,by omega,rfl,rfl⟩
 . have hi:i=l.length:=by omega
   subst hi;simp-implicitDefEqProofs (disch:=omega) only[go_sem];rw[eQ];exact⟨H.own,rfl⟩
theorem aHI{M:Mem}{x:V}{l:List Path}(H:j2 M x l)(ak:s5 l)(ag:l.length<=4096):
 cj av IH [x,.int .i64 0,.int .i64 l.length,oS] M (fun v ah=>v=.tuple []/\ah=M):=by
 have eQ:M.take M.length=M:=g0;refine bZ aC8 (by simp[Gk]) ?_;simp-implicitDefEqProofs (disch:=omega) only[go_sem,Gk,Int.zero_add];refine oC (fun m vs dP=>dP=M/\∃i:Nat,1<=i/\(i<=l.length∨i=1)/\m=l.length -i/\vs=[x,.int .i64 0,.int .i64 l.length,oS,.int .i64 i]) (l.length -1) ⟨rfl,1,by omega,by omega,rfl,rfl⟩ ?_;rintro m vs dP ⟨rfl,i,U,af,rfl,rfl⟩;simp-implicitDefEqProofs (disch:=omega) only[go_sem];refine a5 (fun g=>?_) (fun g=>?_)
 . have a6:IntKind.i64.wrap ((i:Int) -1)=((i -1:Nat):Int):=by rw[nz];omega
   have ba:IntKind.i64.wrap ((i:Int)+1)=((i+1:Nat):Int):=by rw[nz];omega
   obtain⟨p,ax⟩:∃p,l[i -1]? =some p:=⟨l[i -1]'(by omega),by simp⟩;obtain⟨q,aG⟩:∃q,l[i]? =some q:=⟨l[i]'(by omega),by simp⟩;obtain⟨a,bk⟩:=H.at_ _ p ax;obtain⟨b,aj⟩:=H.at_ _ q aG;have bk:=bk [];have aj:=aj [];simp only[fU] at bk aj;have ar:=ak (i -1) i p q (by omega) ax aG;simp-implicitDefEqProofs (disch:=omega) only[go_sem];refine oC (fun _ vs N=>N=dP/\vs=[x,.int .i64 0,.int .i64 l.length,oS,.int .i64 i,.int .i64 i]) 0 ⟨rfl,rfl⟩ ?_;rintro _ vs N ⟨rfl,rfl⟩;simp-implicitDefEqProofs (disch:=omega) only[go_sem];refine a5 (fun _=>?_) (fun g=>absurd g (by omega));simp-implicitDefEqProofs (disch:=omega) only[go_sem,a6,bk.1,bk.2,aj.1,aj.2];first|refine b0 (yZ q p) ?_|refine bV (yZ q p) ?_
   simp-implicitDefEqProofs (disch:=omega) only[go_sem];refine a5 (fun g=>absurd g (by omega)) (fun _=>?_);simp-implicitDefEqProofs (disch:=omega) only[go_sem,ba];exact yf (l.length -(i+1)) (by omega) ⟨rfl,i+1,by omega,by omega,rfl,rfl⟩
 . simp-implicitDefEqProofs (disch:=omega) only[go_sem]
   rw[eQ];exact⟨H.own,rfl⟩
theorem aJY{M:Mem}{x:V}{l:List Path}(M9:Int)(H:j2 M x l)(ak:s5 l)(ag:l.length<=4096)(aF5:12<l.length->M9≠0):
 cj av z3 [x,.int .i64 0,.int .i64 l.length,.int .i64 M9,oS] M (fun v ah=>v=.tuple []/\ah=M):=by
 have eQ:M.take M.length=M:=g0;refine bZ aDc (by simp[Gq]) ?_;simp-implicitDefEqProofs (disch:=omega) only[go_sem,Gq];refine oC (fun _ vs N=>N=M/\vs=[x,.int .i64 0,.int .i64 l.length,.int .i64 M9,oS,.bool true,.bool true]) 0 ⟨rfl,rfl⟩ ?_;rintro _ vs N ⟨rfl,rfl⟩;simp-implicitDefEqProofs (disch:=omega) only[go_sem,Int.sub_zero];refine a5 (fun g=>?_) (fun g=>?_)
 . simp-implicitDefEqProofs (disch:=omega) only[go_sem]
   refine me (aHI H ak ag) ?_;simp-implicitDefEqProofs (disch:=omega) only[go_sem,eQ,H.own]
 simp-implicitDefEqProofs (disch:=omega) only[go_sem];refine a5 (fun a9=>absurd a9 (aF5 (by omega))) (fun _=>?_);simp-implicitDefEqProofs (disch:=omega) only[go_sem];refine me (aAc H ak ag (by omega)) ?_;have d1:decide ((1:Int)=2)=false:=rfl;have d2:decide ((1:Int)=1)=true:=rfl;simp-implicitDefEqProofs (disch:=omega) only[go_sem,d1];refine me (aJV H ak ag (by omega)) ?_;simp-implicitDefEqProofs (disch:=omega) only[go_sem,eQ,H.own]
theorem aNt(P:Program)(a b:bc)(Q:Exit->aH->Mem->Prop)(s:aH)(M:Mem):dv P (.cond (.const (.bool false)) a b) Q s M=dv P b Q s M:=by
 rw[aNn (t:=false) rfl];rfl
def I7:List UInt8:=[0,1,2,2]++(fV 4 3++(fV 8 4++(fV 16 5++(fV 32 6++(fV 64 7++fV 128 8)))))
theorem aIf:∀n:Nat,n<256->(I7[n]?.any fun b=>n==0||decide (0<b.toNat))=true:=by decide+kernel
theorem aIe(n:Nat)(aK:n<256):∃b:UInt8,I7[n]? =some b/\(0<n->0<b.toNat):=by
 have h:=aIf n aK;cases aj:I7[n]? with
 |none=>rw[aj] at h;cases h
 |some b=>
  rw[aj] at h;refine⟨b,rfl,fun a4=>?_⟩;have U:(n==0)=false:=by simp;omega
  simp only[Option.any_some,U,Bool.false_or] at h;exact of_decide_eq_true h
theorem aH9(n:Nat)(aK:n<256):bQ av H5 [.int .u64 n] (fun v=>∃k:Int,v=.int .i64 k/\(0<n->k≠0)):=by
 have a6:IntKind.u8.wrap (n:Int)=n:=by
  show(n:Int)%256=n;omega
 refine bZ Sc (by simp[B0]) ?_;simp-implicitDefEqProofs (disch:=omega) only[go_sem,B0];refine a5 (fun g=>absurd g (by omega)) (fun _=>?_);simp-implicitDefEqProofs (disch:=omega) only[go_sem];refine a5 (fun g=>absurd g (by omega)) (fun _=>?_);simp-implicitDefEqProofs (disch:=omega) only[go_sem];refine a5 (fun g=>absurd g (by omega)) (fun _=>?_);simp-implicitDefEqProofs (disch:=omega) only[go_sem,a6];obtain⟨b,aj,pU⟩:=aIe n aK;have q5:=UInt8.toNat_lt b;change lL (Option.map (fun b=>V.int .u8 (b.toNat:Int)) I7[n]?) _;rw[aj];have ba:IntKind.i64.wrap (b.toNat:Int)=b.toNat:=by rw[nz];omega
 simp-implicitDefEqProofs (disch:=omega) only[go_sem,ba,Int.zero_add];exact⟨_,rfl,fun h=>by have:=pU h;omega⟩
theorem aIk(n:Nat)(aK:n<256):bQ av H4 [.int .u64 n] (fun v=>∃k:Int,v=.int .i64 k/\(0<n->k≠0)):=by
 refine bZ Sd (by simp[zd]) ?_;simp-implicitDefEqProofs (disch:=omega) only[go_sem,zd];first
  |(rw[aNt]
    simp-implicitDefEqProofs (disch:=omega) only[go_sem,zd])
  |skip
 refine fI (aH9 n aK) ?_;rintro v ⟨k,rfl,ao⟩;simp-implicitDefEqProofs (disch:=omega) only[go_sem];exact⟨k,rfl,ao⟩
theorem Z9{M:Mem}{x:V}{l:List Path}(H:j2 M x l)(ak:s5 l)(ag:l.length<256):
 cj av IF [x,oS] M (fun v ah=>v=.tuple []/\ah=M):=by
 have eQ:M.take M.length=M:=g0;have gm:=H.len [];rw[fU] at gm;have a6:IntKind.u64.wrap (l.length:Int)=l.length:=Eo _ (by omega);refine bZ aC6 (by simp[Gi]) ?_;simp-implicitDefEqProofs (disch:=omega) only[go_sem,Gi,gm,a6];refine fI (aIk l.length ag) ?_;rintro v ⟨k,rfl,ao⟩;simp-implicitDefEqProofs (disch:=omega) only[go_sem];refine me (aJY k H ak (by omega) fun _=>ao (by omega)) ?_;simp-implicitDefEqProofs (disch:=omega) only[go_sem,eQ,H.own]
end Go.aQ.C
namespace Go.aQ.C
open Go.aQ
theorem QO{l:List Path}{N s:Nat}{cl:Bool}{W:Nat->Nat->Int}{E:List Edge}{qB:List dp}(eu:oK l N cl W)(iQ:J7 l cl E)(en:yI E N s qB)(ak:s<N)(ey:∀p∈l,p.jR N){k:Nat}(ao:k<N)(cr:k≠s):
 ∃x,qB[k]? =some x/\(x.len=W s k∨(x.len=-1/\W s k=eE)):=by
 have aj:eE=1099511627776:=rfl;obtain⟨x,ab⟩:∃x,qB[k]? =some x:=⟨qB[k]'(by rw[en.len];exact ao),by simp⟩;refine⟨x,ab,?_⟩;let Ju:Nat->Int:=fun j=>match qB[j]? with|some y=>if 0<=y.eb then y.len else eE|none=>eE
 have C5:∀j y,qB[j]? =some y->Ju j=if 0<=y.eb then y.len else eE:=fun j y aD=>by simp only[Ju,aD]
 have key:=eu.qn Ju (fun i _=>by
  cases aD:qB[i]? with
  |none=>simp only[Ju,aD,aj];omega
  |some y=>
   rw[C5 i y aD];split
   . rcases en.fin i y aD with h|h
     . omega
     . omega
   . omega) (fun p ax aC=>by
  obtain⟨e,he,U,af,ay⟩:=iQ.has p ax aC;obtain⟨⟨bU,b4⟩,⟨cG,dl⟩,eY,fQ⟩:=ey p ax;obtain⟨u,hu⟩:∃u,qB[p.src.toNat]? =some u:=⟨qB[p.src.toNat]'(by rw[en.len];omega),by simp⟩;obtain⟨w,hw⟩:∃w,qB[p.dst.toNat]? =some w:=⟨qB[p.dst.toNat]'(by rw[en.len];omega),by simp⟩;rw[C5 _ _ hu,C5 _ _ hw];have Ue:=en.fin _ _ hw;by_cases ml:0<=u.eb
  . obtain⟨y,aD,be,bv⟩:=en.rel e he u (by rw[U];exact hu) ml
    rw[af,hw] at aD;cases aD;rw[if_pos ml,if_pos be];omega
  . rw[if_neg ml]
    split<;>omega) s k ak ao;obtain⟨z,a7,vw,tQ⟩:=en.src;rw[C5 k x ab,C5 s z a7,if_pos vw,tQ] at key;have G3:=eu.kl s k ak ao;by_cases aC:0<=x.eb
 . rw[if_pos aC] at key
   have aOs:=en.low W ⟨fun e he=>by
    obtain⟨p,ax,aE6,U,af,ay⟩:=iQ.of e he;rw[U,af,ay];exact eu.qX p ax aE6,eu.v7⟩ k x ab aC cr;left;omega
 . rw[if_neg aC] at key
   right;rcases en.fin k x ab with h|h<;>omega
theorem QR{l:List Path}{N:Nat}{W F:Nat->Nat->Int}(eu:oK l N false W)(bP:oK l N true F)(ey:∀p∈l,p.jR N){i k:Nat}(hi:i<N)(ao:k<N)(cr:k≠i):W i k<=F i k:=by
 have aj:eE=1099511627776:=rfl;have key:=bP.qn (fun j=>if j=i then 0 else W i j) (fun j ap=>by
  show 0<=(if j=i then(0:Int) else W i j)/\(if j=i then(0:Int) else W i j)<=eE;have:=eu.kl i j hi ap;split<;>omega) (fun p ax _=>by
  obtain⟨⟨bU,b4⟩,⟨cG,dl⟩,eY,fQ⟩:=ey p ax;have U:=eu.qX p ax (fun q=>by cases q);have af:=eu.v7 i p.dst.toNat p.src.toNat hi (by omega) (by omega);show(if p.dst.toNat=i then(0:Int) else W i p.dst.toNat)<=(if p.src.toNat=i then(0:Int) else W i p.src.toNat)+p.dI;have ay:=eu.kl i p.src.toNat hi (by omega);by_cases ak:p.src.toNat=i
  . rw[ak] at U
    rw[if_pos ak];split<;>omega
  . rw[if_neg ak]
    split<;>omega) i k hi ao;simp only[if_neg cr,if_pos] at key;omega
def r1(a b:Nat)(n:Int)(f:Bool):List Path:=if 0<n/\n<=14400 then[⟨a,b,n,f⟩] else[]
theorem azZ{W F:Nat->Nat->Int}{i k:Nat}{n f:Int}(cr:i≠k)(a4:0<W i k)(S7:W i k<=F i k)(aK:n=W i k∨(n=-1/\W i k=eE))(aC:f=F i k∨(f=-1/\F i k=eE)):
 kS W F i k=r1 i k n (decide (f=n))++if f=n then[] else r1 i k f true:=by
 have aj:eE=1099511627776:=rfl;unfold kS r1;by_cases hw:14400<W i k
 . rw[if_pos (.inr hw),if_neg (by omega)]
   split
   . rfl
   . rw[if_neg (by omega)];rfl
 have xq:n=W i k:=by omega
 subst xq;rw[if_neg (show¬(i=k∨14400<W i k) by omega),if_pos (show 0<W i k/\W i k<=14400 by omega)];by_cases G_:f=W i k
 . have bP:F i k=W i k:=by omega
   rw[if_pos G_,if_neg (by omega),bP,G_];simp
 . rw[if_neg G_]
   have U:decide (F i k=W i k)=decide (f=W i k):=by
    rw[decide_eq_false G_];exact decide_eq_false (by omega)
   rw[U];by_cases bP:F i k<=14400
   . have:f=F i k:=by omega
     subst this;rw[if_pos (by omega),if_pos (by omega)];rfl
   . rw[if_neg (by omega),if_neg (by omega)];rfl
theorem aAo{p q:Path}(h:p.src<q.src):0<=tc q p:=by
 unfold tc;have:jc q.src p.src=1:=by unfold jc;rw[if_neg (by omega),if_pos h]
 rw[this];simp[sE]
theorem aAm{p q:Path}(a4:p.src=q.src)(h:p.dst<q.dst):0<=tc q p:=by
 unfold tc;have U:jc q.src p.src=0:=by unfold jc;rw[if_neg (by omega),if_neg (by omega)]
 have:jc q.dst p.dst=1:=by unfold jc;rw[if_neg (by omega),if_pos h]
 rw[this,U];simp[sE]
theorem aAn{p q:Path}(a4:p.src=q.src)(af:p.dst=q.dst)(h:p.dI<=q.dI):0<=tc q p:=by
 unfold tc;have U:jc q.src p.src=0:=by unfold jc;rw[if_neg (by omega),if_neg (by omega)]
 have ay:jc q.dst p.dst=0:=by unfold jc;rw[if_neg (by omega),if_neg (by omega)]
 have:0<=jc q.dI p.dI:=by unfold jc;rw[if_neg (by omega)];split<;>omega
 rw[U,ay];simp only[sE,if_pos];split<;>omega
theorem E_{W F:Nat->Nat->Int}{i k:Nat}{p:Path}(h:p∈kS W F i k):p.src=i/\p.dst=k:=by
 unfold kS at h;split at h
 . cases h
 . rcases jm.1 h with h|h
   . subst h;exact⟨rfl,rfl⟩
   . split at h
     . rw[ht] at h;subst h;exact⟨rfl,rfl⟩
     . cases h
theorem aAh(W F:Nat->Nat->Int)(N:Nat):s5 (gl W F N N):=by
 have aGB:(gl W F N N).Pairwise (fun p q=>0<=tc q p):=by
  unfold gl;rw[List.pairwise_flatMap];refine⟨fun i _=>?_,?_⟩
  . unfold k1
    rw[List.pairwise_flatMap];refine⟨fun k _=>?_,?_⟩
    . unfold kS
      split
      . exact .nil
      . split
        . rename_i h
          refine .cons (fun q aG=>?_) (.cons (fun q aG=>by cases aG) .nil);rw[ht] at aG;subst aG;exact aAn rfl rfl (Int.le_of_lt h.1)
        . exact .cons (fun q aG=>by cases aG) .nil
    . refine List.Pairwise.imp ?_ List.pairwise_lt_range
      intro a b zk p ax q aG;obtain⟨U,af⟩:=E_ ax;obtain⟨ay,be⟩:=E_ aG;exact aAm (by rw[U,ay]) (by rw[af,be];omega)
  . refine List.Pairwise.imp ?_ List.pairwise_lt_range
    intro a b zk p ax q aG;unfold k1 at ax aG;obtain⟨_,_,ax⟩:=List.mem_flatMap.1 ax;obtain⟨_,_,aG⟩:=List.mem_flatMap.1 aG;exact aAo (by rw[(E_ ax).1,(E_ aG).1];omega)
 intro i j p q mT ax aG;obtain⟨hi,ax⟩:=bn.1 ax;obtain⟨ap,aG⟩:=bn.1 aG;have:=List.pairwise_iff_getElem.1 aGB i j hi ap mT;rw[ax,aG] at this;exact this
end Go.aQ.C
namespace Go.aQ.C
open Go.aQ
def mO(l:List Path)(ver:Nat):Mem:=match l with
 |[]=>[.box [.slice [] .nil]]
 |p::r=>[.box [.aX 1 ver 0 (p::r).length],.arr 4 ((p::r).map Path.row) ver 0]
def yY(l:List Path)(ver:Nat):V:=match l with
 |[]=>.slice [] .nil
 |p::r=>.aX 1 ver 0 (p::r).length
theorem KQ(l:List Path)(ver:Nat)(L:Mem):(mO l ver++L)[0]? =some (.box [yY l ver]):=by cases l<;>rfl
theorem aAg(l:List Path)(ver:Nat)(a b:Nat)(n:Int)(f:Bool)(ag:l.length<=100000):∃k8 dP,d0 false 4 32 (yY l ver) (.slice [[.int .i64 a,.int .i64 b,.int .i64 n,.bool f]] .full) (mO l ver)=some (.aX 1 k8 0 (l.length+1),dP)/\
 dP.set 0 (.box [.aX 1 k8 0 (l.length+1)])=mO (l++[⟨a,b,n,f⟩]) k8/\dP[0]? =some (.box [yY l ver]):=by
 cases l with
 |nil=>exact⟨0,[.box [.slice [] .nil],.arr 4 ([(⟨a,b,n,f⟩:Path)].map Path.row) 0 0],by simp[yY,mO,d0,eJ,g3,fq,Path.row],rfl,rfl⟩
 |cons q l=>
  have af:decide ((l.length+1+1)*64<=2^48)=true:=decide_eq_true (by simp only[dz] at ag;omega);refine⟨ver+1,[.box [.aX 1 ver 0 (l.length+1)],.arr 4 ((q::l++[(⟨a,b,n,f⟩:Path)]).map Path.row) (ver+1) 0],?_,by simp[mO],rfl⟩;simp only[yY,mO,d0,eJ,fq,dz,gZ,ev,beq_self_eq_true,cond_true,g3,List.getElem?_cons_succ,ja,eD,eR,Nat.reduceMul,af,List.set_cons_succ,List.set_cons_zero,List.cons_append,hQ,List.map_append,lb,Path.row]
theorem Pt(l:List Path)(ver:Nat)(a b:Nat)(n:Int)(f:Bool)(ag:l.length<=100000):
 cj av zO [.int .i64 a,.int .i64 b,.int .i64 n,.bool f,.ptr 0 0] (mO l ver) (fun v ah=>v=.tuple []/\∃k8,ah=mO (l++r1 a b n f) k8):=by
 obtain⟨k8,dP,U,af,ay⟩:=aAg l ver a b n f ag;have a4:=KQ l ver [];rw[fU] at a4;refine hx aCv (by simp[FQ]) ?_;simp only[hq];simp-implicitDefEqProofs (disch:=omega) only[go_sem,FQ];refine a5 (fun aW=>?_) (fun aW=>?_);rotate_left
 . simp-implicitDefEqProofs (disch:=omega) only[go_sem]
   exact⟨ver,by rw[r1,if_neg (by omega),fU]⟩
 simp-implicitDefEqProofs (disch:=omega) only[go_sem];refine a5 (fun a9=>?_) (fun a9=>?_);rotate_left
 . simp-implicitDefEqProofs (disch:=omega) only[go_sem]
   exact⟨ver,by rw[r1,if_neg (by omega),fU]⟩
 simp-implicitDefEqProofs (disch:=omega) only[go_sem,a4,U,af,ay];exact⟨k8,by rw[r1,if_pos ⟨aW,a9⟩]⟩
theorem Qx(l:List Path)(ver:Nat):cL (mO l ver).length (mO l ver)=true:=by cases l<;>simp[mO,cL,a2.under,cS,V.under]
theorem aAf(l:List Path)(ver:Nat):j2 (mO l ver) (yY l ver) l:=by
 cases l with
 |nil=>exact aLO (Qx [] ver)
 |cons p r=>exact aLN (a:=1) (Qx (p::r) ver) rfl
theorem aAl(l:List Path)(c:c3)(N:Nat)(W G:Nat->Nat->Int)(db:N<=64)(ey:∀p∈l,p.jR N)(hlen:l.length<=4096)(eu:oK l N false W)(hf:oK l N true G)(de:(gl W G N N).length<256):
 bQ av HS [.slice (l.map Path.row) c,.int .i64 N] (fun v=>∃c0,v=.slice ((gl W G N N).map Path.row) c0):=by
 refine bZ aCx (by simp[FP]) ?_;simp-implicitDefEqProofs (disch:=omega) only[go_sem,FP];refine fI (QS l c N false db ey hlen) ?_;rintro v ⟨D,rfl,E,iQ,en⟩;simp-implicitDefEqProofs (disch:=omega) only[go_sem];refine fI (QS l c N true db ey hlen) ?_;rintro v ⟨B,rfl,aNR,aDW,bY⟩;simp-implicitDefEqProofs (disch:=omega) only[go_sem,uR,List.length_range];refine gg N (fun i vs M=>∃ver,vs=[uR N D,uR N B,.ptr 0 0,.fn zO [.ptr 0 0],.int .i64 N,.int .i64 i]/\M=mO (gl W G N i) ver) ⟨0,rfl,rfl⟩ ?_ ?_;rotate_left
 . rintro vs M ⟨ver,rfl,rfl⟩
   have ci:=0;have a4:=fun L=>KQ (gl W G N N) ver L;have U:=KQ (gl W G N N) ver [];rw[fU] at U;simp-implicitDefEqProofs (disch:=omega) only[go_sem,dg,U];refine me (Z9 (aAf _ ver) (aAh W G N) de) ?_;simp-implicitDefEqProofs (disch:=omega) only[go_sem];clear ci a4 U de;rw[aAT];generalize gl W G N N=L;cases L with
   |nil=>exact⟨rfl,⟨_,rfl⟩,rfl,rfl⟩
   |cons p r=>
    show lL (fu (mO (p::r) ver) 0 20 (.aX 1 ver 0 (p::r).length)) _;have aC:=zf (M:=mO (p::r) ver) (base:=0) (n:=19) (id:=1) (ver:=ver) (start:=0) (len:=(p::r).length) (rows:=(p::r).map Path.row) (sz:=4) (fz:=0) rfl rfl (by simp);rw[l9,g1 (by simp)] at aC;rw[aC];exact⟨rfl,⟨_,rfl⟩,rfl,rfl⟩
 rintro i vs M hi aw ⟨ver,rfl,rfl⟩;have ci:=Qy W G N i db;have li:=fun k=>I8 W G i k;have al:(c1 N)[i]? =some i:=by simp[hi]
 have S2:=(en i hi).len;have aN9:=(bY i hi).len;simp-implicitDefEqProofs (disch:=omega) only[go_sem,aw,uR,al,kx,S2];refine gg N (fun k vs M=>∃ver,vs=[uR N D,uR N B,.ptr 0 0,.fn zO [.ptr 0 0],.int .i64 i,.int .i64 N,.int .i64 i,kx (D i),.int .i64 N,.int .i64 k]/\M=mO (gl W G N i++k1 W G i k) ver) ⟨ver,?_,?_⟩ ?_ ?_
 . rfl
 . simp[k1]
 rotate_left
 . rintro vs M ⟨ver,rfl,rfl⟩
   simp-implicitDefEqProofs (disch:=omega) only[go_sem,dg];refine c6 hi ⟨ver,rfl,?_⟩;rw[KR]
 rintro k vs M ao fw ⟨ver,rfl,rfl⟩;have cM:=I8 W G i k;by_cases iU:k=i
 . subst iU
   obtain⟨x,ab⟩:∃x,(D k)[k]? =some x:=⟨(D k)[k]'(by rw[S2];exact ao),by simp⟩;simp-implicitDefEqProofs (disch:=omega) only[go_sem,fw,ab,kx];refine c6 ao ⟨ver,rfl,?_⟩;have ar:kS W G k k=[]:=by unfold kS;rw[if_pos (.inl rfl)]
   rw[pp,ar,fU]
 obtain⟨x,ab,Hs⟩:=QO eu iQ (en i hi) hi ey ao iU;obtain⟨y,aD,aHl⟩:=QO hf aDW (bY i hi) hi ey ao iU;have hle:=QR eu hf ey hi ao iU;have dL:=azZ (W:=W) (F:=G) (n:=x.len) (f:=y.len) (gi iU) (eu.kl i k hi ao).1 hle Hs aHl;simp-implicitDefEqProofs (disch:=omega) only[go_sem,fw,ab,kx];refine a5 (fun h=>absurd (by omega) iU) (fun _=>?_);simp-implicitDefEqProofs (disch:=omega) only[go_sem,al,uR,aD,kx];refine ew (Pt (gl W G N i++k1 W G i k) ver i k x.len (decide (y.len=x.len)) (by rw[dT];omega)) ?_;rintro v ah ⟨rfl,iH,rfl⟩;simp-implicitDefEqProofs (disch:=omega) only[go_sem];refine a5 (fun g=>?_) (fun g=>?_)
 . simp-implicitDefEqProofs (disch:=omega) only[go_sem]
   refine c6 ao ⟨iH,rfl,?_⟩;rw[if_pos g,fU] at dL;rw[pp,dL,eB]
 simp-implicitDefEqProofs (disch:=omega) only[go_sem];have Pv:(r1 i k x.len (decide (y.len=x.len))).length<=1:=by unfold r1;split<;>simp
 refine ew (Pt (gl W G N i++k1 W G i k++r1 i k x.len (decide (y.len=x.len))) iH i k y.len true (by rw[dT,dT];omega)) ?_;rintro v ah ⟨rfl,aM2,rfl⟩;simp-implicitDefEqProofs (disch:=omega) only[go_sem];refine c6 ao ⟨aM2,rfl,?_⟩;rw[if_neg g] at dL;rw[pp,dL,eB,eB]
end Go.aQ.C
namespace Go.aQ.C
open Go.aQ
def JR(k:Int×Int×Bool):V:=.agg [.int .i64 k.1,.int .i64 k.2.1,.bool k.2.2]
theorem WY:j0 (.cells [.int,.int,.bool]) JR:=⟨fun _=>rfl,fun x y=>by
 obtain⟨a,b,c⟩:=x;obtain⟨d,e,f⟩:=y;simp[JR,hV,gw,hA,Bool.decide_and]⟩
def Jz(k:Int×Int×Bool):V:=.agg [.int .i64 k.1,.int .i64 k.2.1,.int .i64 0,.bool k.2.2]
theorem VI:j0 (.cells [.int,.int,.int,.bool]) Jz:=⟨fun _=>rfl,fun x y=>by
 obtain⟨a,b,c⟩:=x;obtain⟨d,e,f⟩:=y;simp[Jz,hV,gw,hA,Bool.decide_and]⟩
def Path.key(p:Path):Int×Int×Bool:=(p.src,p.dst,p.free)
theorem Vt{l:List Path}{N i:Nat}{p:Path}(h:Kg l N i p)(ax:l[i]? =some p):p.key∉(l.take i).map Path.key:=
 DJ fun k o ao az he=>h.2.2 k o ao az ⟨congrArg (·.1) he,congrArg (·.2.1) he,congrArg (·.2.2) he⟩
theorem Wm(l:List Path)(c:c3)(N:Nat)(hlen:l.length<256)(ak:qL l N):bQ av HT [.slice (l.map Path.row) c,.int .i64 N] (fun v=>v=ic (0,0)):=by
 refine bZ aCz (by simp[FU]) ?_;simp-implicitDefEqProofs (disch:=omega) only[go_sem,FU];refine ek l (fun i vs M=>vs=[.int .i64 N,.map 0,.slice (l.map Path.row) c,.int .i64 l.length,.int .i64 i]/\M=[.map (cC JR (i6 ((l.take i).map Path.key)))]) ⟨rfl,rfl⟩ ?_ ?_;rotate_left
 . rintro vs M ⟨rfl,rfl⟩
   simp-implicitDefEqProofs (disch:=omega) only[go_sem,dg,ic]
 rintro i p vs M ax hi aw ⟨rfl,rfl⟩;have mR:=ak i p ax;obtain⟨⟨⟨bU,b4⟩,⟨cG,dl⟩,eY,fQ⟩,cr,_⟩:=mR;have mo:=Vt (ak i p ax) ax;have a6:=xX WY mo;have ba:=yw WY mo;rw[Ay ax] at ba;simp only[JR,Path.key] at a6 ba;simp-implicitDefEqProofs (disch:=omega) only[go_sem,aw,ax,Path.row];refine a5 (fun h=>absurd h (by omega)) (fun _=>?_);simp-implicitDefEqProofs (disch:=omega) only[go_sem];refine a5 (fun h=>absurd h (by omega)) (fun _=>?_);simp-implicitDefEqProofs (disch:=omega) only[go_sem];refine a5 (fun h=>absurd h (by omega)) (fun _=>?_);simp-implicitDefEqProofs (disch:=omega) only[go_sem];refine a5 (fun h=>absurd h (by omega)) (fun _=>?_);simp-implicitDefEqProofs (disch:=omega) only[go_sem];refine a5 (fun h=>absurd h (by omega)) (fun _=>?_);refine a5 (fun h=>absurd h (by omega)) (fun _=>?_);simp-implicitDefEqProofs (disch:=omega) only[go_sem];refine a5 (fun h=>absurd h (by omega)) (fun _=>?_);simp-implicitDefEqProofs (disch:=omega) only[go_sem,a6,ba];exact dC hi (by simp[hK,dt,aY,cS,V.under,cL,a2.under,wc]) ⟨rfl,rfl⟩
theorem OS(l:List Path)(c:c3)(N:Nat)(db:N<=64)(hlen:l.length<256)(ak:qL l N)(ar:uz l N):bQ av HR [.slice (l.map Path.row) c,.int .i64 N] (fun v=>v=.bool true):=by
 obtain⟨W,G,eu,hf,de⟩:=ar;have ey:∀p∈l,p.jR N:=fun p ax=>by
  obtain⟨k,ao⟩:=ij ax;exact(ak k p ao).1
 refine bZ aCu (by simp[FO]) ?_;simp-implicitDefEqProofs (disch:=omega) only[go_sem,FO];refine a5 (fun h=>absurd h (by omega)) (fun _=>?_);simp-implicitDefEqProofs (disch:=omega) only[go_sem];first|refine b0 (Wm l c N hlen ak) ?_|refine bV (Wm l c N hlen ak) ?_
 simp-implicitDefEqProofs (disch:=omega) only[go_sem,ic];have ji:max (N:Int) 0=N:=by omega
 rw[ji];refine fI (aAl l c N W G db ey (by omega) eu hf (by rw[<-de];exact hlen)) ?_;rintro v ⟨c0,rfl⟩;rw[<-de];simp-implicitDefEqProofs (disch:=omega) only[go_sem];refine ek l (fun i vs M=>vs=[.slice (l.map Path.row) c,.slice (l.map Path.row) c0,.int .i64 l.length,.int .i64 i]/\M=[]) ⟨rfl,rfl⟩ ?_ ?_;rotate_left
 . rintro vs M ⟨rfl,rfl⟩
   simp-implicitDefEqProofs (disch:=omega) only[go_sem,dg]
 rintro i p vs M ax hi aw ⟨rfl,rfl⟩;simp-implicitDefEqProofs (disch:=omega) only[go_sem,aw,ax,Path.row];exact c6 hi ⟨rfl,rfl⟩
theorem az_(n:Net)(aK:n.wf)(db:n.stops.length<=64)(hlen:n.paths.length<256)(ak:qL n.paths n.stops.length)(ar:uz n.paths n.stops.length):bQ av H8 [.agg n.row] (fun v=>v=.agg (gB 0 0 0)):=by
 refine bZ aCK (by simp[F4]) ?_;simp-implicitDefEqProofs (disch:=omega) only[go_sem,F4,Net.row];refine ek n.paths (fun i vs M=>vs=[.ptr 0 0,.ptr 1 0,.map 2,.slice (n.paths.map Path.row) n.ql,.int .i64 n.paths.length,.int .i64 i]/\M=[.box n.row,.box (gB 0 0 0),.map (cC Jz (i6 ((n.paths.take i).map Path.key)))]) ⟨rfl,rfl⟩ ?_ ?_;rotate_left
 . rintro vs M ⟨rfl,rfl⟩
   simp-implicitDefEqProofs (disch:=omega) only[go_sem,dg,gB,Net.row];first|refine b0 (OS n.paths n.ql n.stops.length db hlen ak ar) ?_|refine bV (OS n.paths n.ql n.stops.length db hlen ak ar) ?_
   simp-implicitDefEqProofs (disch:=omega) only[go_sem,gB]
 rintro i p vs M ax hi aw ⟨rfl,rfl⟩;have mR:=ak i p ax;obtain⟨⟨⟨bU,b4⟩,⟨cG,dl⟩,eY,fQ⟩,cr,_⟩:=mR;have mo:=Vt (ak i p ax) ax;have a6:=xX VI mo;have ba:=yw VI mo;rw[Ay ax] at ba;simp only[Jz,Path.key] at a6 ba;have hp:decide (0<=p.src/\p.src<(n.stops.length:Int))=true:=decide_eq_true ⟨bU,b4⟩;have lF:decide (0<=p.dst/\p.dst<(n.stops.length:Int))=true:=decide_eq_true ⟨cG,dl⟩;simp-implicitDefEqProofs (disch:=omega) only[go_sem,aw,ax,Path.row,Net.row];first|refine b0 (qj _ _) ?_|refine bV (qj _ _) ?_
 simp-implicitDefEqProofs (disch:=omega) only[go_sem,hp];first|refine b0 (qj _ _) ?_|refine bV (qj _ _) ?_
 simp-implicitDefEqProofs (disch:=omega) only[go_sem,lF];refine a5 (fun h=>absurd h cr) (fun _=>?_);simp-implicitDefEqProofs (disch:=omega) only[go_sem];refine a5 (fun h=>absurd h (by omega)) (fun _=>?_);simp-implicitDefEqProofs (disch:=omega) only[go_sem];refine a5 (fun h=>absurd h (by omega)) (fun _=>?_);simp-implicitDefEqProofs (disch:=omega) only[go_sem,a6];simp-implicitDefEqProofs (disch:=omega) only[go_sem,ba];exact dC hi (by simp[hK,dt,aY,cS,V.under,cL,a2.under,wc,gB]) ⟨rfl,rfl⟩
end Go.aQ.C
namespace Go.aQ.C
open Go.aQ
theorem Rq(l:List (Int×Int×Int))(c:c3)(ag:l.length<=10)(h:∀r∈l,r.2.2=0):bQ av zU [.slice (l.map fun r=>gB r.1 r.2.1 r.2.2) c] (fun v=>v=.agg (gB 0 0 0)):=
 bQ.mono (aJx l c ag) fun v ⟨p,i,e,aq,ce⟩=>by
  obtain⟨U,af,ay⟩:=ce h;rw[aq,U,af,ay]
theorem Jg(n:Net)(aK:n.wf)(ok:g2 n):bQ av DA [.agg n.row] (fun v=>v=.tuple [.int .i64 0,.int .i64 0,.int .i64 0]):=by
 have U:=ok.ok;have ak:=ok.stops;have ax:=ok.paths;have h7:decide ((0:Int)=0)=true:=rfl;have f1:=Rq [(0,0,0),(1,0,0)] .full (by simp) (by simp);have f2:=Rq [(0,0,0),(5,0,0)] .full (by simp) (by simp);have i4:=aAa n aK U.runs;have r2:=az9 n aK U.b9;have NJ:=az_ n aK (by omega) (by omega) U.sound U.closed;have NK:=D7 n.cY aK.cY;simp only[hQ,lb,gB,Net.row,bd.row,U.cY] at f1 f2 i4 r2 NJ NK;refine bZ aCH (by simp[F1]) ?_;simp-implicitDefEqProofs (disch:=omega) only[go_sem,F1,Net.row];first|refine b0 (Ww n.stops n.mB aK.stops.1 U.stops) ?_|refine bV (Ww n.stops n.mB aK.stops.1 U.stops) ?_
 simp-implicitDefEqProofs (disch:=omega) only[go_sem,ic];first|refine b0 (VZ n.fK n.rc aK.fK.1 U.fK) ?_|refine bV (VZ n.fK n.rc aK.fK.1 U.fK) ?_
 simp-implicitDefEqProofs (disch:=omega) only[go_sem,ic];first|refine b0 (Ag 0 0 0) ?_|refine bV (Ag 0 0 0) ?_
 simp-implicitDefEqProofs (disch:=omega) only[go_sem,gB];first|refine b0 (Ag 1 0 0) ?_|refine bV (Ag 1 0 0) ?_
 simp-implicitDefEqProofs (disch:=omega) only[go_sem,gB];first|refine b0 (f1) ?_|refine bV (f1) ?_
 simp-implicitDefEqProofs (disch:=omega) only[go_sem];first|refine b0 (i4) ?_|refine bV (i4) ?_
 simp-implicitDefEqProofs (disch:=omega) only[go_sem];first|refine b0 (r2) ?_|refine bV (r2) ?_
 simp-implicitDefEqProofs (disch:=omega) only[go_sem];first|refine b0 (NK) ?_|refine bV (NK) ?_
 simp-implicitDefEqProofs (disch:=omega) only[go_sem,ic];first|refine b0 (NJ) ?_|refine bV (NJ) ?_
 simp-implicitDefEqProofs (disch:=omega) only[go_sem];first|refine b0 (Ag 5 0 0) ?_|refine bV (Ag 5 0 0) ?_
 simp-implicitDefEqProofs (disch:=omega) only[go_sem,gB];first|refine b0 (f2) ?_|refine bV (f2) ?_
 simp-implicitDefEqProofs (disch:=omega) only[go_sem]
end Go.aQ.C
namespace Go.aQ.C
open Go.aQ
def fC:Nat->c3
 |0=>.full
 |_+1=>.cv
theorem s6(sz bytes:Nat)(c:c3)(M:Mem):d0 false sz bytes (.slice [] .full) (.slice [] c) M=some (.slice [] .full,M):=by
 simp[d0,eJ,g3,fq]
theorem yk(sz:Nat)(M:Mem):g7 sz (.slice [] .full) none (some (.int .i64 ((0:Nat):Int))) (some (.int .i64 ((0:Nat):Int))) M=some (.slice [] .full):=rfl
theorem ww{sz bytes:Nat}{r:List V}{rows:List (List V)}{c:c3}{M:Mem}(ce:r.length=sz)(aj:bytes<=1000)(ag:rows.length<100000):
 d0 false sz bytes (.slice [] .full) (.slice (r::rows) c) M=some (.aX M.length 0 0 (rows.length+1),M++[.arr sz (r::rows) 0 0]):=by
 have U:(rows.length+1)*(2*bytes)<=100000*2000:=Nat.mul_le_mul (by omega) (by omega);have aw:decide ((rows.length+1)*(2*bytes)<=2^48)=true:=decide_eq_true (by omega);simp only[d0,eJ,g3,fq,ce,beq_self_eq_true,cond_true,dz,gZ,ev,aw,decide_true,Bool.or_true,eR,List.nil_append]
theorem v2{sz id ver n:Nat}{rows:List (List V)}{fz:Nat}{M:Mem}(bb:M[id]? =some (.arr sz rows ver fz))(aK:rows.length=n):g7 sz (.aX id ver 0 n) none (some (.int .i64 n)) (some (.int .i64 n)) M=some (.aX id ver 0 n):=by
 subst aK;have a4:decide (0<=(rows.length:Int))=true:=decide_eq_true (by omega);have U:decide (0+rows.length<=rows.length)=true:=decide_eq_true (by omega);simp only[g7,bb,ix,a4,cond_true,lI,beq_self_eq_true,U,fG,cF,decide_true,eR,Nat.sub_zero,iJ]
theorem aDE(l:List Stop)(c:c3)(ag:l.length<=100000):bQ av Ig [.slice (l.map Stop.row) c] (fun v=>v=.slice (l.map Stop.row) (fC l.length)):=by
 refine bZ aCT (by simp[B8]) ?_;cases l with
 |nil=>
  have e:=fun b=>s6 4 b c [];simp only[lb];simp-implicitDefEqProofs (disch:=omega) only[go_sem,B8,e,yk,fC]
 |cons x l=>
  have e:=fun b(aj:b<=1000)=>ww (sz:=4) (bytes:=b) (r:=x.row) (rows:=l.map Stop.row) (c:=c) (M:=[]) rfl aj (by rw[eD];simp only[dz] at ag;omega);have ba:=v2 (sz:=4) (id:=0) (ver:=0) (n:=l.length+1) (rows:=x.row::l.map Stop.row) (fz:=0) (M:=[.arr 4 (x.row::l.map Stop.row) 0 0]) rfl (by simp);simp only[hQ,dz,fC,eD,gZ,List.nil_append] at e ba⊢;simp-implicitDefEqProofs (disch:=omega) only[go_sem,B8,e,ba]
theorem aDD(l:List fi)(c:c3)(ag:l.length<=100000):bQ av Ie [.slice (l.map fi.row) c] (fun v=>v=.slice (l.map fi.row) (fC l.length)):=by
 refine bZ aCR (by simp[B6]) ?_;cases l with
 |nil=>
  have e:=fun b=>s6 3 b c [];simp only[lb];simp-implicitDefEqProofs (disch:=omega) only[go_sem,B6,e,yk,fC]
 |cons x l=>
  have e:=fun b(aj:b<=1000)=>ww (sz:=3) (bytes:=b) (r:=x.row) (rows:=l.map fi.row) (c:=c) (M:=[]) rfl aj (by rw[eD];simp only[dz] at ag;omega);have ba:=v2 (sz:=3) (id:=0) (ver:=0) (n:=l.length+1) (rows:=x.row::l.map fi.row) (fz:=0) (M:=[.arr 3 (x.row::l.map fi.row) 0 0]) rfl (by simp);simp only[hQ,dz,fC,eD,gZ,List.nil_append] at e ba⊢;simp-implicitDefEqProofs (disch:=omega) only[go_sem,B6,e,ba]
theorem aDC(l:List dA)(c:c3)(ag:l.length<=100000):bQ av Ib [.slice (l.map dA.row) c] (fun v=>v=.slice (l.map dA.row) (fC l.length)):=by
 refine bZ aCP (by simp[B4]) ?_;cases l with
 |nil=>
  have e:=fun b=>s6 5 b c [];simp only[lb];simp-implicitDefEqProofs (disch:=omega) only[go_sem,B4,e,yk,fC]
 |cons x l=>
  have e:=fun b(aj:b<=1000)=>ww (sz:=5) (bytes:=b) (r:=x.row) (rows:=l.map dA.row) (c:=c) (M:=[]) rfl aj (by rw[eD];simp only[dz] at ag;omega);have ba:=v2 (sz:=5) (id:=0) (ver:=0) (n:=l.length+1) (rows:=x.row::l.map dA.row) (fz:=0) (M:=[.arr 5 (x.row::l.map dA.row) 0 0]) rfl (by simp);simp only[hQ,dz,fC,eD,gZ,List.nil_append] at e ba⊢;simp-implicitDefEqProofs (disch:=omega) only[go_sem,B4,e,ba]
theorem aDB(l:List Path)(c:c3)(ag:l.length<=100000):bQ av Ia [.slice (l.map Path.row) c] (fun v=>v=.slice (l.map Path.row) (fC l.length)):=by
 refine bZ aCO (by simp[B3]) ?_;cases l with
 |nil=>
  have e:=fun b=>s6 4 b c [];simp only[lb];simp-implicitDefEqProofs (disch:=omega) only[go_sem,B3,e,yk,fC]
 |cons x l=>
  have e:=fun b(aj:b<=1000)=>ww (sz:=4) (bytes:=b) (r:=x.row) (rows:=l.map Path.row) (c:=c) (M:=[]) rfl aj (by rw[eD];simp only[dz] at ag;omega);have ba:=v2 (sz:=4) (id:=0) (ver:=0) (n:=l.length+1) (rows:=x.row::l.map Path.row) (fz:=0) (M:=[.arr 4 (x.row::l.map Path.row) 0 0]) rfl (by simp);simp only[hQ,dz,fC,eD,gZ,List.nil_append] at e ba⊢;simp-implicitDefEqProofs (disch:=omega) only[go_sem,B3,e,ba]
theorem aDA(l:List cd)(c:c3)(ag:l.length<=100000):bQ av H_ [.slice (l.map cd.row) c] (fun v=>v=.slice (l.map cd.row) (fC l.length)):=by
 refine bZ aCN (by simp[B2]) ?_;cases l with
 |nil=>
  have e:=fun b=>s6 5 b c [];simp only[lb];simp-implicitDefEqProofs (disch:=omega) only[go_sem,B2,e,yk,fC]
 |cons x l=>
  have e:=fun b(aj:b<=1000)=>ww (sz:=5) (bytes:=b) (r:=x.row) (rows:=l.map cd.row) (c:=c) (M:=[]) rfl aj (by rw[eD];simp only[dz] at ag;omega);have ba:=v2 (sz:=5) (id:=0) (ver:=0) (n:=l.length+1) (rows:=x.row::l.map cd.row) (fz:=0) (M:=[.arr 5 (x.row::l.map cd.row) 0 0]) rfl (by simp);simp only[hQ,dz,fC,eD,gZ,List.nil_append] at e ba⊢;simp-implicitDefEqProofs (disch:=omega) only[go_sem,B2,e,ba]
theorem SL(l:List dk)(c:c3)(ag:l.length<=100000):bQ av Ic [.slice (l.map dk.row) c] (fun v=>v=.slice (l.map dk.row) (fC l.length)):=by
 refine bZ aCQ (by simp[B5]) ?_;cases l with
 |nil=>
  have e:=fun b=>s6 6 b c [];simp only[lb];simp-implicitDefEqProofs (disch:=omega) only[go_sem,B5,e,yk,fC]
 |cons x l=>
  have e:=fun b(aj:b<=1000)=>ww (sz:=6) (bytes:=b) (r:=x.row) (rows:=l.map dk.row) (c:=c) (M:=[]) rfl aj (by rw[eD];simp only[dz] at ag;omega);have ba:=v2 (sz:=6) (id:=0) (ver:=0) (n:=l.length+1) (rows:=x.row::l.map dk.row) (fz:=0) (M:=[.arr 6 (x.row::l.map dk.row) 0 0]) rfl (by simp);simp only[hQ,dz,fC,eD,gZ,List.nil_append] at e ba⊢;simp-implicitDefEqProofs (disch:=omega) only[go_sem,B5,e,ba]
def i5(sz:Nat)(b:Nat)(rows:List (List V)):V:=match rows with
 |[]=>.slice [] .full
 |_::_=>.aX b 0 0 rows.length
def um(sz:Nat)(rows:List (List V)):Mem:=match rows with
 |[]=>[]
 |_::_=>[.arr sz rows 0 0]
theorem SM(l:List bS)(c:c3)(M:Mem)(ag:l.length<=100000):cj av If [.slice (l.map bS.row) c] M (fun v ah=>v=i5 8 M.length (l.map bS.row)/\ah=M++um 8 (l.map bS.row)):=by
 refine hx aCS (by simp[B7]) ?_;simp only[hq];cases l with
 |nil=>
  have e:=fun b=>s6 8 b c M;simp only[lb];simp-implicitDefEqProofs (disch:=omega) only[go_sem,B7,e,yk,i5,um,fU]
 |cons x l=>
  have e:=fun b(aj:b<=1000)=>ww (sz:=8) (bytes:=b) (r:=x.row) (rows:=l.map bS.row) (c:=c) (M:=M) rfl aj (by rw[eD];simp only[dz] at ag;omega);have ba:=v2 (sz:=8) (id:=M.length) (ver:=0) (n:=l.length+1) (rows:=x.row::l.map bS.row) (fz:=0) (M:=M++[.arr 8 (x.row::l.map bS.row) 0 0]) (e0 M _) (by simp);have e3:=e0 M [.arr 8 (x.row::l.map bS.row) 0 0];simp only[hQ,eD] at e ba⊢;simp-implicitDefEqProofs (disch:=omega) only[go_sem,B7,e,ba,e3,i5,um]
end Go.aQ.C
namespace Go.aQ.C
open Go.aQ
def ky{α β:Type}(f g:α->β)(l:List α)(i:Nat):List β:=(l.take i).map f++(l.drop i).map g
theorem US{α β:Type}(f g:α->β)(l:List α):ky f g l l.length=l.map f:=by simp[ky]
theorem UU{α β:Type}(f g:α->β)(l:List α)(i:Nat):(ky f g l i).length=l.length:=by simp[ky];omega
theorem UT{α β:Type}{f g:α->β}{l:List α}{i:Nat}{x:α}(h:l[i]? =some x):(ky f g l i)[i]? =some (g x):=by
 have hi:=(bn.1 h).1;rw[ky,jX (by simp;omega)];simp[Nat.min_eq_left (Nat.le_of_lt hi),h]
theorem UV{α β:Type}{f g:α->β}{l:List α}{i:Nat}{x:α}(h:l[i]? =some x):(ky f g l i).set i (f x)=ky f g l (i+1):=by
 have hi:=(bn.1 h).1;have aw:l.drop i=x::l.drop (i+1):=by
  rw[qx hi];have:=gd hi;rw[h] at this;injection this with this;rw[<-this]
 rw[ky,ky,aw,List.set_append_right _ _ (by simp;omega)];simp[Nat.min_eq_left (Nat.le_of_lt hi),hR,h]
def bS.fresh(r:bS):bS:={r with tag:=fC r.calls.length}
def jW:List V:=[.slice [] .nil,.slice [] .nil,.slice [] .nil,.slice [] .nil,.slice [] .nil,.slice [] .nil,.int .i64 0,.int .i64 0,.int .i64 0]
def h5(n:Net)(b:Nat)(ot:V):List V:=[.slice (n.stops.map Stop.row) (fC n.stops.length),.slice (n.fK.map fi.row) (fC n.fK.length),i5 8 b (n.runs.map bS.row),.slice (n.b9.map dA.row) (fC n.b9.length),.slice (n.paths.map Path.row) (fC n.paths.length),
 ot,.int .i64 n.cY.lq,.int .i64 n.cY.within,.int .i64 n.cY.mw]
theorem XQ(n:Net)(M:Mem)(U:n.stops.length<=1000)(af:n.fK.length<=1000)(ay:n.runs.length<=1000)(be:n.b9.length<=1000)(bv:n.paths.length<=1000)(b7:n.cY.cH.length<=1000)(dQ:∀r∈n.runs,r.calls.length<=1000):
 cj av DB [.agg n.row] M (fun v ah=>v=.agg (h5 n (M.length+3) (.slice (n.cY.cH.map dk.row) (fC n.cY.cH.length)))/\ah=M++([.box n.row,.box (h5 n (M.length+3) (.slice (n.cY.cH.map dk.row) (fC n.cY.cH.length))),.box (h5 n (M.length+3) (.slice (n.cY.cH.map dk.row) (fC n.cY.cH.length)))]++um 8 (n.runs.map fun r=>r.fresh.row))):=by
 have f6:=fun L=>iP M L;have j5:=fun L=>k7 M L;have eZ:=fun L=>e0 M L;have kk:=fun L=>kg M L;refine hx aCI (by simp[F2]) ?_;simp only[hq];simp-implicitDefEqProofs (disch:=omega) only[go_sem,F2,Xv,Net.row,eB,eZ];have d:=fun L=>f6 L 2;refine E4 (aDE n.stops n.mB (by omega)) (f6 _ 2) ?_;simp-implicitDefEqProofs (disch:=omega) only[go_sem,eZ];refine E4 (aDD n.fK n.rc (by omega)) (f6 _ 2) ?_;simp-implicitDefEqProofs (disch:=omega) only[go_sem,eZ];have QY:∀a b c:a2,(M++[a,b,c]).length=M.length+3:=fun a b c=>by simp
 refine⟨i5 8 (M.length+3) (n.runs.map bS.row),_,?_,cj.mono (SM n.runs n.rQ _ (by omega)) fun v N h=>⟨by rw[h.1,QY],h.2⟩,?_,?_⟩
 . rw[eB];exact f6 _ 2
 . refine cj.mono (SM n.runs n.rQ _ (by omega)) fun v N h=>⟨by rw[h.1,eO,QY],?_⟩
   rw[h.2,eB,j5,j5,eB];rfl
 rw[eB];simp-implicitDefEqProofs (disch:=omega) only[go_sem,eZ];refine E4 (aDC n.b9 n.lc (by omega)) (f6 _ 2) ?_;simp-implicitDefEqProofs (disch:=omega) only[go_sem,eZ];refine E4 (aDB n.paths n.ql (by omega)) (f6 _ 2) ?_;cases al:n.runs with
 |nil=>
  simp-implicitDefEqProofs (disch:=omega) only[go_sem,f6,j5,eZ,i5,um,lb];refine gg 0 (fun i vs N=>vs=[.ptr M.length 0,.ptr (M.length+1) 0,.ptr (M.length+2) 0,.int .i64 ((0:Nat):Int),.int .i64 i]/\
   N=M++[.box n.row,.box jW,.box (h5 n (M.length+3) (.slice (n.cY.cH.map dk.row) n.cY.tag))]) ⟨rfl,by simp[Net.row,h5,al,i5,jW]⟩ ?_ ?_
  . intro i _ _ hi;omega
  rintro vs N ⟨rfl,rfl⟩;simp-implicitDefEqProofs (disch:=omega) only[go_sem,dg,eZ,Net.row,h5];refine fI (SL n.cY.cH n.cY.tag (by omega)) ?_;rintro v rfl;simp-implicitDefEqProofs (disch:=omega) only[go_sem,f6,j5,h5,jW,al,i5,lb]
 |cons fF rs=>
 have SX:rs.length+1<=1000:=by rw[al] at ay;exact ay
 have aDR:∀r∈fF::rs,r.calls.length<=1000:=by rw[<-al];exact dQ
 have aNW:=fun(L:Mem)=>f6 L 3;simp-implicitDefEqProofs (disch:=omega) only[go_sem,f6,j5,eZ,i5,um,hQ];refine ek (fF::rs) (fun i vs N=>vs=[.ptr M.length 0,.ptr (M.length+1) 0,.ptr (M.length+2) 0,.int .i64 (fF::rs).length,.int .i64 i]/\
  N=M++[.box n.row,.box jW,.box (h5 n (M.length+3) (.slice (n.cY.cH.map dk.row) n.cY.tag)),.arr 8 (ky (fun r=>r.fresh.row) bS.row (fF::rs) i) 0 0]) ⟨rfl,by simp[Net.row,h5,al,i5,jW,ky]⟩ ?_ ?_;rotate_left
 . rintro vs N ⟨rfl,rfl⟩
   simp-implicitDefEqProofs (disch:=omega) only[go_sem,dg,eZ,Net.row,h5];refine fI (SL n.cY.cH n.cY.tag (by omega)) ?_;rintro v rfl;simp-implicitDefEqProofs (disch:=omega) only[go_sem,f6,j5,h5,jW,al,i5,hQ];have Ja:=US (fun r:bS=>r.fresh.row) bS.row (fF::rs);rw[show(fF::rs).length=rs.length+1 from rfl] at Ja;rw[Ja];rfl
 rintro i r vs N ph hi aw ⟨rfl,rfl⟩;have aw:decide ((i:Int)<((rs.length+1:Nat):Int))=true:=aw;have hi:i<rs.length+1:=hi;have kY:decide (i<rs.length+1)=true:=decide_eq_true hi;have jA:=UU (fun r:bS=>r.fresh.row) bS.row (fF::rs) i;have k2:(ky (fun r:bS=>r.fresh.row) bS.row (fF::rs) i)[i]? =some [.int .i64 r.uu,.int .i64 r.day,.int .i64 r.inst,.str r.id,.int .i64 r.iu,.bool r.free,.bool r.gone,.slice (r.calls.map cd.row) r.tag]:=UT ph;have nH:(ky (fun r:bS=>r.fresh.row) bS.row (fF::rs) i).set i [.int .i64 r.uu,.int .i64 r.day,.int .i64 r.inst,.str r.id,.int .i64 r.iu,.bool r.free,.bool r.gone,.slice (r.calls.map cd.row) (fC r.calls.length)]=ky (fun r:bS=>r.fresh.row) bS.row (fF::rs) (i+1):=UV (f:=fun r:bS=>r.fresh.row) ph;have vg:((fF::rs).length)=rs.length+1:=rfl;rw[vg] at jA;have aEP:decide (rs.length+1<=rs.length+1)=true:=decide_eq_true (cF _);simp-implicitDefEqProofs (disch:=omega) only[go_sem,aw,f6,Net.row,h5,al,i5,hQ,dz,eD,jA,k2,kY];refine bV (aDA r.calls r.tag (by have:=aDR r (dO ph);omega)) ?_;simp-implicitDefEqProofs (disch:=omega) only[go_sem,f6,j5,jA,k2,nH,dz,kY];exact c6 hi ⟨rfl,by simp[Net.row,h5,al,i5,jW]⟩
end Go.aQ.C
namespace Go.aQ.C
open Go.aQ
theorem aMO(r:bS):bQ av vA [.agg r.row] (fun v=>v=.bool (!r.gone)):=by
 refine bZ aCp (by simp[FK]) ?_;simp-implicitDefEqProofs (disch:=omega) only[go_sem,FK,bS.row]
theorem aMP(r:bS)(q:Query){M:Mem}{a:Nat}(bb:M[a]? =some (.box q.row))(e1:cL M.length M=true):cj av vB [.agg r.row,.ptr a 0] M (fun v ah=>v=.bool (r.free||!q.free)/\ah=M):=by
 have eQ:∀L:Mem,(M++L).take M.length=M:=fun L=>kI rfl L;have le:∀L:Mem,decide (M.length<=M.length+L.length)=true:=fun L=>decide_eq_true (by omega);have cq:=fun L=>b6 bb L;have eZ:=fun L=>e0 M L;simp only[Query.row] at cq;refine bZ aCq (by simp[FL]) ?_;simp-implicitDefEqProofs (disch:=omega) only[go_sem,FL,bS.row,eZ];refine cp (fun g=>?_) (fun g=>?_)
 . simp-implicitDefEqProofs (disch:=omega) only[go_sem,eQ,e1,g,Bool.true_or]
 . simp-implicitDefEqProofs (disch:=omega) only[go_sem,cq,eQ,e1,g,Bool.false_or]
theorem aMQ(r:bS)(q:Query)(u:fi){M:Mem}{a b:Nat}(bb:M[a]? =some (.box q.row))(fO:M[b]? =some (.box u.row))(e1:cL M.length M=true):cj av vC [.agg r.row,.ptr b 0,.ptr a 0] M (fun v ah=>v=.bool (u.AY||!q.wB)/\ah=M):=by
 have eQ:∀L:Mem,(M++L).take M.length=M:=fun L=>kI rfl L;have le:∀L:Mem,decide (M.length<=M.length+L.length)=true:=fun L=>decide_eq_true (by omega);have cq:=fun L=>b6 bb L;have c4:=fun L=>b6 fO L;have eZ:=fun L=>e0 M L;simp only[Query.row] at cq;simp only[fi.row] at c4;refine bZ aCr (by simp[FM]) ?_;simp-implicitDefEqProofs (disch:=omega) only[go_sem,FM,bS.row,c4];refine cp (fun g=>?_) (fun g=>?_)
 . simp-implicitDefEqProofs (disch:=omega) only[go_sem,eQ,e1,g,Bool.true_or]
 . simp-implicitDefEqProofs (disch:=omega) only[go_sem,cq,eQ,e1,g,Bool.false_or]
def Ae(m k:Int):Bool:=decide (m=0)||decide (ES .i64 (m.fdiv (2^(min k.toNat 64))) 1=1)
theorem aMR(r:bS)(q:Query)(u:fi){M:Mem}{a b:Nat}(bb:M[a]? =some (.box q.row))(fO:M[b]? =some (.box u.row))(e1:cL M.length M=true)(hm:0<=u.mode/\u.mode<=7):cj av vD [.agg r.row,.ptr a 0,.ptr b 0] M (fun v ah=>v=.bool (Ae q.eP u.mode)/\ah=M):=by
 have eQ:∀L:Mem,(M++L).take M.length=M:=fun L=>kI rfl L;have le:∀L:Mem,decide (M.length<=M.length+L.length)=true:=fun L=>decide_eq_true (by omega);have cq:=fun L=>b6 bb L;have c4:=fun L=>b6 fO L;have eZ:=fun L=>e0 M L;have xC:dB .shr .none (.int .i64 q.eP) (.int .i64 u.mode)=some (.int .i64 (q.eP.fdiv (2^(min u.mode.toNat 64)))):=by
  show ox .shr .i64 q.eP u.mode=_;unfold ox;rw[decide_eq_false (by omega)];rfl
 simp only[Query.row] at cq;simp only[fi.row] at c4;refine bZ aCs (by simp[FN]) ?_;simp-implicitDefEqProofs (disch:=omega) only[go_sem,FN,bS.row,cq];refine a5 (fun g=>?_) (fun g=>?_)
 . simp-implicitDefEqProofs (disch:=omega) only[go_sem,eQ,e1]
   rw[Ae,decide_eq_true g,Bool.true_or]
 . simp-implicitDefEqProofs (disch:=omega) only[go_sem,cq,c4,eQ,e1,xC]
   rw[Ae,decide_eq_false g,Bool.false_or]
def El(n:Net)(q:Query)(r:bS):Bool:=!r.gone&&((r.free||!q.free)&&match n.fK[r.iu.toNat]? with
 |some u=>(u.AY||!q.wB)&&Ae q.eP u.mode
 |none=>false)
theorem aMS(r:bS)(q:Query)(u:fi){M:Mem}{a b c:Nat}(lQ:M[c]? =some (.vec [.dH vA [],.fn vB [.ptr a 0],.fn vC [.ptr b 0,.ptr a 0],.fn vD [.ptr a 0,.ptr b 0]] 0))(bb:M[a]? =some (.box q.row))(fO:M[b]? =some (.box u.row))(e1:cL M.length M=true)(hm:0<=u.mode/\u.mode<=7):
 cj av HN [.agg r.row,.aX c 0 0 4] M
  (fun v ah=>v=.bool (!r.gone&&((r.free||!q.free)&&((u.AY||!q.wB)&&Ae q.eP u.mode)))/\ah=M):=by
 have eQ:∀L:Mem,(M++L).take M.length=M:=fun L=>kI rfl L;have le:∀L:Mem,decide (M.length<=M.length+L.length)=true:=fun L=>decide_eq_true (by omega);have eZ:=fun L=>e0 M L;have ab:∀L:Mem,cL (M.length+L.length) L=true->cL (M++L).length (M++L)=true:=fun L dh=>by
  rw[rt,dT,ru (Nat.le_add_right _ _) M e1,dh];rfl
 have l2:cL (M++[a2.box r.row]).length (M++[a2.box r.row])=true:=ab _ (by simp[cL,a2.under,cS,V.under,bS.row]);have AW:=fun L=>b6 lQ L;have v8:=aMO r;have sT:=aMP r q (b6 bb [a2.box r.row]) l2;have W2:=aMQ r q u (b6 bb [a2.box r.row]) (b6 fO [a2.box r.row]) l2;have W3:=aMR r q u (b6 bb [a2.box r.row]) (b6 fO [a2.box r.row]) l2 hm;simp only[bS.row] at v8 sT W2 W3;refine bZ aCm (by simp[FG]) ?_;simp-implicitDefEqProofs (disch:=omega) only[go_sem,FG,bS.row,AW];refine gg 4 (fun i vs N=>vs=[.ptr M.length 0,.aX c 0 0 4,.int .i64 4,.int .i64 i]/\N=M++[.box r.row]/\
  (([!r.gone,(r.free||!q.free),(u.AY||!q.wB),Ae q.eP u.mode]:List Bool).take i).all id=true) ⟨rfl,rfl,rfl⟩ ?_ ?_;rotate_left
 . rintro vs N ⟨rfl,rfl,H⟩
   have oT:decide (((4:Nat):Int)<4)=false:=rfl;simp-implicitDefEqProofs (disch:=omega) only[go_sem,oT,eQ,e1];simp only[List.take,List.all_cons,List.all_nil,id,Bool.and_true] at H;rw[H]
 rintro i vs N hi aw ⟨rfl,rfl,H⟩;simp only[bS.row];rcases(by omega:i=0∨i=1∨i=2∨i=3) with rfl|rfl|rfl|rfl
 . have oT:decide (((0:Nat):Int)<4)=true:=rfl
   simp-implicitDefEqProofs (disch:=omega) only[go_sem,oT,eZ,AW];refine fI v8 ?_;rintro v rfl;simp-implicitDefEqProofs (disch:=omega) only[go_sem];refine cp (fun g=>?_) (fun g=>?_)
   . simp-implicitDefEqProofs (disch:=omega) only[go_sem,eQ,e1]
     simp[g]
   . simp-implicitDefEqProofs (disch:=omega) only[go_sem]
     refine c6 hi ⟨rfl,rfl,?_⟩;simp only[List.take,List.all_cons,List.all_nil,id,Bool.and_true,lH] at H⊢;simp[g]
 . have oT:decide (((1:Nat):Int)<4)=true:=rfl
   simp-implicitDefEqProofs (disch:=omega) only[go_sem,oT,eZ,AW];refine ew sT ?_;rintro v N ⟨rfl,rfl⟩;simp-implicitDefEqProofs (disch:=omega) only[go_sem];refine cp (fun g=>?_) (fun g=>?_)
   . simp-implicitDefEqProofs (disch:=omega) only[go_sem]
     refine c6 hi ⟨rfl,rfl,?_⟩;simp only[List.take,List.all_cons,List.all_nil,id,Bool.and_true,b_,lH] at H⊢;simp[g,H]
   . simp-implicitDefEqProofs (disch:=omega) only[go_sem,eQ,e1]
     simp[g]
 . have oT:decide (((2:Nat):Int)<4)=true:=rfl
   simp-implicitDefEqProofs (disch:=omega) only[go_sem,oT,eZ,AW];refine ew W2 ?_;rintro v N ⟨rfl,rfl⟩;simp-implicitDefEqProofs (disch:=omega) only[go_sem];refine cp (fun g=>?_) (fun g=>?_)
   . simp-implicitDefEqProofs (disch:=omega) only[go_sem]
     refine c6 hi ⟨rfl,rfl,?_⟩;simp only[List.take,List.all_cons,List.all_nil,id,Bool.and_true,b_,lH] at H⊢;simp[g,H]
   . simp-implicitDefEqProofs (disch:=omega) only[go_sem,eQ,e1]
     simp[g]
 . have oT:decide (((3:Nat):Int)<4)=true:=rfl
   simp-implicitDefEqProofs (disch:=omega) only[go_sem,oT,eZ,AW];refine ew W3 ?_;rintro v N ⟨rfl,rfl⟩;simp-implicitDefEqProofs (disch:=omega) only[go_sem];refine cp (fun g=>?_) (fun g=>?_)
   . simp-implicitDefEqProofs (disch:=omega) only[go_sem]
     refine c6 hi ⟨rfl,rfl,?_⟩;simp only[List.take,List.all_cons,List.all_nil,id,Bool.and_true,b_,lH] at H⊢;simp[g,H]
   . simp-implicitDefEqProofs (disch:=omega) only[go_sem,eQ,e1]
     simp[g]
theorem aMT(n:Net)(q:Query)(r:bS)(al:0<=r.iu/\r.iu<n.fK.length)(az:AS n.fK):bQ av HQ [.agg n.row,.agg q.row,.agg r.row] (fun v=>v=.bool (El n q r)):=by
 obtain⟨u,hu⟩:∃u,n.fK[r.iu.toNat]? =some u:=⟨n.fK[r.iu.toNat]'(by omega),by simp⟩;have hm:=(az.2 _ u hu).2.1;refine bZ aCt (by simp[FJ]) ?_;have LW:∀(a b c d:a2),wF [V.gu,V.gu,V.gu,V.gu] 4 [(0,1,V.dH vA []),(1,1,V.fn vB [V.ptr 1 0]),(2,1,V.fn vC [V.ptr 3 0,V.ptr 1 0]),(3,1,V.fn vD [V.ptr 1 0,V.ptr 3 0])] [a,b,c,d]=
  some (.aX 4 0 0 4,[a,b,c,d,.vec [.dH vA [],.fn vB [.ptr 1 0],.fn vC [.ptr 3 0,.ptr 1 0],.fn vD [.ptr 1 0,.ptr 3 0]] 0]):=fun _ _ _ _=>rfl;simp-implicitDefEqProofs (disch:=omega) only[go_sem,FJ,Net.row,Query.row,bS.row,hu,fi.row,LW];have key:=aMS r q u (M:=[.box n.row,.box q.row,.box r.row,.box u.row,.vec [.dH vA [],.fn vB [.ptr 1 0],.fn vC [.ptr 3 0,.ptr 1 0],.fn vD [.ptr 1 0,.ptr 3 0]] 0]) (a:=1) (b:=3) (c:=4) rfl rfl rfl
  (by simp[cL,a2.under,cS,V.under,Net.row,Query.row,bS.row,fi.row]) hm;simp only[Net.row,Query.row,bS.row,fi.row] at key;refine ew key ?_;rintro v ah ⟨rfl,rfl⟩;simp-implicitDefEqProofs (disch:=omega) only[go_sem];simp only[El,hu]
end Go.aQ.C
namespace Go.aQ.C
open Go.aQ
def Jm(q:Query)(s:Stop):Bool:=s.free||!q.free
theorem aJP(n:Net)(q:Query)(i:Nat)(s:Stop)(ak:n.stops[i]? =some s):bQ av HP [.agg n.row,.agg q.row,.int .i64 i] (fun v=>v=.bool (Jm q s)):=by
 refine bZ aCo (by simp[FI]) ?_;simp-implicitDefEqProofs (disch:=omega) only[go_sem,FI,Net.row,Query.row,ak,Stop.row];refine cp (fun g=>?_) (fun g=>?_)
 . simp-implicitDefEqProofs (disch:=omega) only[go_sem,Jm,g,Bool.true_or]
 . simp-implicitDefEqProofs (disch:=omega) only[go_sem,Jm,g,Bool.false_or]
def ho(n:Net)(q:Query)(c:cd):cd:=match n.stops[c.stop.toNat]? with
 |some s=>if Jm q s=true then c else{c with jb:=false,gP:=false}
 |none=>c
theorem s7{sz bytes id ver n:Nat}{rows:List (List V)}{r:List V}{M:Mem}(bb:M[id]? =some (.arr sz rows ver 0))(aK:rows.length=n)(al:r.length=sz)(aj:(n+1)*(2*bytes)<=2^48):
 d0 false sz bytes (.aX id ver 0 n) (.slice [r] .full) M=some (.aX id (ver+1) 0 (n+1),M.set id (.arr sz (rows++[r]) (ver+1) 0)):=by
 subst aK;have aw:decide ((rows.length+1)*(2*bytes)<=2^48)=true:=decide_eq_true aj;simp only[d0,eJ,fq,al,dz,gZ,ev,beq_self_eq_true,cond_true,g3,bb,eR,aw]
theorem aAk(n:Net)(q:Query)(l:List cd)(c:c3)(ag:l.length<=1000)(bh:∀x∈l,0<=x.stop/\x.stop<n.stops.length):
 bQ av HO [.agg n.row,.agg q.row,.slice (l.map cd.row) c] (fun v=>v=.slice (l.map fun x=>(ho n q x).row) .cv):=by
 refine bZ aCn (by simp[FH]) ?_;simp-implicitDefEqProofs (disch:=omega) only[go_sem,FH,Net.row,Query.row];refine ek l (fun i vs M=>∃ver,vs=[.ptr 0 0,.ptr 1 0,.aX 2 ver 0 i,.slice (l.map cd.row) c,.int .i64 l.length,.int .i64 i]/\M=[.box n.row,.box q.row,.arr 5 ((l.take i).map fun x=>(ho n q x).row) ver 0]) ⟨0,rfl,rfl⟩ ?_ ?_;rotate_left
 . rintro vs M ⟨ver,rfl,rfl⟩
   simp-implicitDefEqProofs (disch:=omega) only[go_sem,dg];rw[g0];have vg:(l.map fun x=>(ho n q x).row).length=l.length:=by simp
   generalize(l.map fun x=>(ho n q x).row)=rows at vg⊢;have ba:=v2 (sz:=5) (id:=2) (ver:=ver) (n:=l.length) (rows:=rows) (fz:=0) (M:=[.box n.row,.box q.row,.arr 5 rows ver 0]) rfl vg;have e3:rows.take l.length=rows:=g1 (by omega);have lO:decide (l.length<=rows.length)=true:=decide_eq_true (by omega);simp-implicitDefEqProofs (disch:=omega) only[go_sem,↓br 29,ba,e3,lO]
 rintro i x vs M ab hi aw ⟨ver,rfl,rfl⟩;obtain⟨s1,ds⟩:=bh x (dO ab);obtain⟨s,ak⟩:∃s,n.stops[x.stop.toNat]? =some s:=⟨n.stops[x.stop.toNat]'(by omega),by simp⟩;have az:=aJP n q x.stop.toNat s ak;rw[show((x.stop.toNat:Nat):Int)=x.stop by omega] at az;simp only[Net.row,Query.row] at az;have zH:((l.take i).map fun x=>(ho n q x).row).length=i:=by simp;omega
 have aT:((l.take i).map fun x=>(ho n q x).row)++[(ho n q x).row]=(l.take (i+1)).map fun x=>(ho n q x).row:=by rw[hR,ab];simp
 generalize((l.take i).map fun x=>(ho n q x).row)=R at aT zH⊢;have iS:∀(a b d:a2)(y:cd),d0 false 5 32 (.aX 2 ver 0 i) (.slice [[.int .i64 y.stop,.int .i64 y.c_,.int .i64 y.cB,.bool y.jb,.bool y.gP]] .full) [a,b,.arr 5 R ver 0,d]=
  some (.aX 2 (ver+1) 0 (i+1),[a,b,.arr 5 (R++[y.row]) (ver+1) 0,d]):=fun a b d y=>s7 rfl zH rfl (by omega);simp-implicitDefEqProofs (disch:=omega) only[go_sem,aw,ab,cd.row,Net.row,Query.row];first|refine b0 (az) ?_|refine bV (az) ?_
 simp-implicitDefEqProofs (disch:=omega) only[go_sem];refine cp (fun g=>?_) (fun g=>?_)
 . have xC:ho n q x=x:=by unfold ho;rw[ak];simp[g]
   rw[xC] at aT;simp-implicitDefEqProofs (disch:=omega) only[go_sem,iS _ _ _ x,aT];exact dC hi rfl ⟨ver+1,rfl,rfl⟩
 . have xC:ho n q x={x with jb:=false,gP:=false}:=by unfold ho;rw[ak];simp[g]
   rw[xC] at aT;have af:=fun a b d=>iS a b d {x with jb:=false,gP:=false};simp only at af;simp-implicitDefEqProofs (disch:=omega) only[go_sem,af,aT];exact dC hi rfl ⟨ver+1,rfl,rfl⟩
end Go.aQ.C
namespace Go.aQ.C
open Go.aQ
theorem pO(n low high:Int):bQ av tR [.int .i64 n,.int .i64 low,.int .i64 high] (fun v=>v=.bool (decide (low<=n/\n<=high))):=by
 refine bZ aCk (by simp[FE]) ?_;simp-implicitDefEqProofs (disch:=omega) only[go_sem,FE];refine a5 (fun h=>?_) (fun h=>?_)
 . simp-implicitDefEqProofs (disch:=omega) only[go_sem]
   exact decide_eq_decide.2 (by omega)
 . simp-implicitDefEqProofs (disch:=omega) only[go_sem]
   symm;exact decide_eq_false (by omega)
theorem ON(n:Net)(q:Query)(aK:n.wf)(ok:g2 n)(aG:qK n.stops.length q):bQ av Ds [.agg n.row,.agg q.row] (fun v=>v=.int .i64 0):=by
 have ar:=Jg n aK ok;have ak:=ok.stops;obtain⟨dw,dn,i3,sI,Jx,aON,aKo⟩:=aG;simp only[Net.row] at ar;refine bZ aCj (by simp[FD]) ?_;simp-implicitDefEqProofs (disch:=omega) only[go_sem,FD,Net.row,Query.row];first|refine b0 (ar) ?_|refine bV (ar) ?_
 simp-implicitDefEqProofs (disch:=omega) only[go_sem];first|refine b0 (pO _ _ _) ?_|refine bV (pO _ _ _) ?_
 have hp:decide (0<=q.src/\q.src<=(n.stops.length:Int) -1)=true:=decide_eq_true (by omega);simp-implicitDefEqProofs (disch:=omega) only[go_sem,hp];first|refine b0 (pO _ _ _) ?_|refine bV (pO _ _ _) ?_
 have lF:decide (0<=q.dst/\q.dst<=(n.stops.length:Int) -1)=true:=decide_eq_true (by omega);simp-implicitDefEqProofs (disch:=omega) only[go_sem,lF];first|refine b0 (pO _ _ _) ?_|refine bV (pO _ _ _) ?_
 have we:decide (0<=q.time/\q.time<=3155932800)=true:=decide_eq_true (by omega);simp-implicitDefEqProofs (disch:=omega) only[go_sem,we];first|refine b0 (pO _ _ _) ?_|refine bV (pO _ _ _) ?_
 have Oy:decide (0<=q.b1/\q.b1<=8)=true:=decide_eq_true (by omega);simp-implicitDefEqProofs (disch:=omega) only[go_sem,Oy];first|refine b0 (pO _ _ _) ?_|refine bV (pO _ _ _) ?_
 have aNc:decide (0<=q.walk/\q.walk<=86400)=true:=decide_eq_true (by omega);simp-implicitDefEqProofs (disch:=omega) only[go_sem,aNc];first|refine b0 (pO _ _ _) ?_|refine bV (pO _ _ _) ?_
 have aNd:decide (0<=q.eP/\q.eP<=255)=true:=decide_eq_true (by omega);simp-implicitDefEqProofs (disch:=omega) only[go_sem,aNd];refine cp (fun g=>?_) (fun g=>?_)
 . simp-implicitDefEqProofs (disch:=omega) only[go_sem]
   refine cp (fun a9=>absurd ⟨g,a9⟩ aKo) (fun _=>?_);simp-implicitDefEqProofs (disch:=omega) only[go_sem]
 . simp-implicitDefEqProofs (disch:=omega) only[go_sem]
def jd(n:Net)(q:Query)(r:bS):bS:={r with gone:=!El n q r,calls:=r.calls.map (ho n q),tag:=.cv}
def Bk(l:List Path):c3:=match l with|[]=>.nil|_::_=>.cv
def gF(n:Net)(q:Query):Net:=
 {stops:=n.stops,fK:=n.fK,runs:=n.runs.map (jd n q),b9:=n.b9
  paths:=if q.free=true then n.paths.filter (·.free) else n.paths
  cY:={n.cY with tag:=fC n.cY.cH.length}
  mB:=fC n.stops.length,rc:=fC n.fK.length,rQ:=fC n.runs.length,lc:=fC n.b9.length
  ql:=if q.free=true then Bk (n.paths.filter (·.free)) else fC n.paths.length}
def AR(k:Nat)(L:Mem)(x:V)(done:List Path):Prop:=(x=.slice [] .nil/\done=[])∨∃b ver,x=.aX (k+1+b) ver 0 done.length/\L[b]? =some (.arr 4 (done.map Path.row) ver 0)/\0<done.length
theorem O1{k:Nat}{L:Mem}{x:V}{done:List Path}(h:AR k L x done)(K:Mem):AR k (L++K) x done:=by
 rcases h with h|⟨b,ver,U,af,ay⟩
 . exact .inl h
 . exact .inr ⟨b,ver,U,b6 af K,ay⟩
theorem ZP{P:Mem}{k:Nat}(ao:P.length=k){L:Mem}{x:V}{done:List Path}(h:AR k L x done)(B:a2)(p:Path)(aw:done.length<=1000):
 ∃b ver L',d0 false 4 32 x (.slice [[.int .i64 p.src,.int .i64 p.dst,.int .i64 p.dI,.bool p.free]] .full) (P++B::L)=some (.aX (k+1+b) ver 0 (done.length+1),P++B::L')/\L'[b]? =some (.arr 4 ((done++[p]).map Path.row) ver 0):=by
 have e:∀K:Mem,P++B::K=(P++[B])++K:=fun K=>by simp
 have ag:(P++[B]).length=k+1:=by simp[ao]
 rcases h with⟨rfl,rfl⟩|⟨b,ver,rfl,af,_⟩
 . refine⟨L.length,0,L++[.arr 4 [[.int .i64 p.src,.int .i64 p.dst,.int .i64 p.dI,.bool p.free]] 0 0],?_,e0 L _⟩
   have hlen:(P++B::L).length=k+1+L.length:=by simp[ao];omega
   simp only[d0,eJ,g3,fq,dz,gZ,ev,beq_self_eq_true,cond_true,Nat.reduceMul,Nat.reducePow,Nat.reduceLeDiff,decide_true,Bool.true_or,eR,List.nil_append,hlen,eB,List.cons_append]
 . refine⟨b,ver+1,L.set b (.arr 4 (done.map Path.row++[p.row]) (ver+1) 0),?_,?_⟩
   . have bb:(P++B::L)[k+1+b]? =some (.arr 4 (done.map Path.row) ver 0):=by rw[e,<-ag,iP];exact af
     have:=s7 (bytes:=32) (n:=done.length) (r:=p.row) bb (by simp) rfl (by omega);refine Eq.trans this ?_;rw[e L,e (L.set b _),<-ag,k7]
   . rw[eC (bn.1 af).1];simp
theorem PB{P:Mem}{k:Nat}(ao:P.length=k)(n:Net)(bv:n.paths.length<=60)(fj bU b4 cG eY fQ jq nZ kH:V)(Q:Exit->aH->Mem->Prop)
 (gq:∀s x L,aY s 4=kH->aY s 7=.ptr k 0->AR k L x (n.paths.filter (·.free))->Q .normal s (P++.box [fj,bU,b4,cG,x,eY,fQ,jq,nZ]::L)):
 dv av Qi Q [(4,kH),(7,.ptr k 0),(54,.slice (n.paths.map Path.row) n.ql),(55,.int .i64 n.paths.length),(56,.int .i64 0)] (P++[.box [fj,bU,b4,cG,.slice [] .nil,eY,fQ,jq,nZ]]):=by
 simp-implicitDefEqProofs (disch:=omega) only[go_sem,↓br 55];refine ek n.paths (fun i vs N=>∃x L,vs=[kH,.ptr k 0,.slice (n.paths.map Path.row) n.ql,.int .i64 n.paths.length,.int .i64 i]/\N=P++.box [fj,bU,b4,cG,x,eY,fQ,jq,nZ]::L/\AR k L x ((n.paths.take i).filter (·.free))) ⟨_,[],rfl,rfl,.inl ⟨rfl,by simp⟩⟩ ?_ ?_;rotate_left
 . rintro vs N ⟨x,L,rfl,rfl,h⟩
   rw[g0] at h;simp-implicitDefEqProofs (disch:=omega) only[go_sem,dg];exact gq _ x L rfl rfl h
 rintro i p vs N ax hi aw ⟨x,L,rfl,rfl,h⟩;have aT:(n.paths.take (i+1)).filter (·.free)=(n.paths.take i).filter (·.free)++if p.free=true then[p] else[]:=by
  rw[hR,ax,List.filter_append];cases aC:p.free<;>simp[aC]
 have hU:((n.paths.take i).filter (·.free)).length<=60:=jH (List.length_filter_le _ _) (by rw[iw];omega);obtain⟨b,ver,L',U,af⟩:=ZP ao (O1 h [.box p.row]) (.box [fj,bU,b4,cG,x,eY,fQ,jq,nZ]) p (by omega);have q0:∀(B:a2)(K:Mem),(P++B::K)[k]? =some B:=fun B K=>by rw[<-ao,e0];rfl
 have aW:∀(B C:a2)(K:Mem),(P++B::K).set k C=P++C::K:=fun B C K=>by rw[<-ao,kg];rfl
 have a9:∀(B Z:a2),(P++B::(L++[Z]))[P.length+(L.length+1)]? =some Z:=fun B Z=>by
  rw[iP,List.getElem?_cons_succ,e0];rfl
 have bN:∀(B Z Y:a2),(P++B::(L++[Z])).set (P.length+(L.length+1)) Y=P++B::(L++[Y]):=fun B Z Y=>by
  rw[k7,List.set_cons_succ,kg];rfl
 simp-implicitDefEqProofs (disch:=omega) only[go_sem,aw,ax,Path.row,eB,List.cons_append,a9,bN];simp only[Path.row] at U;refine cp (fun g=>?_) (fun g=>?_)
 . rw[if_pos g] at aT
   simp-implicitDefEqProofs (disch:=omega) only[go_sem,q0,aW,a9,U];refine c6 hi ⟨_,L',rfl,rfl,.inr ⟨b,ver,by rw[aT,dT];rfl,by rw[aT];exact af,by rw[aT];simp⟩⟩
 . rw[if_neg (by rw[g];simp),fU] at aT
   simp-implicitDefEqProofs (disch:=omega) only[go_sem];refine c6 hi ⟨x,L++[.box p.row],rfl,rfl,by rw[aT];exact O1 h _⟩
theorem aBV(n:Net)(q:Query)(r:bS):(jd n q r).row=[.int .i64 r.uu,.int .i64 r.day,.int .i64 r.inst,.str r.id,.int .i64 r.iu,.bool r.free,.bool (!El n q r),.slice (r.calls.map fun x=>(ho n q x).row) .cv]:=by
 simp[jd,bS.row]
theorem OK(n:Net)(q:Query)(aK:n.wf)(ok:g2 n)(aG:qK n.stops.length q):bQ av HM [.agg n.row,.agg q.row] (fun v=>v=.tuple [.agg (gF n q).row,.int .i64 0]):=by
 have L2:=ON n q aK ok aG;obtain⟨bH,b8,dS,fr,fs,ia⟩:=ok;have aOC:=bH.stops.1;have aOA:=bH.fK.1;have Hb:=(wK (by rw[bH.cY])).len;have de:cj av DB [.agg n.row] [.box n.row,.box q.row,.box jW] (fun v ah=>v=.agg (h5 n 6 (.slice (n.cY.cH.map dk.row) (fC n.cY.cH.length)))/\∃lf mK:a2,lf.under 8=true/\mK.under 8=true/\ah=[.box n.row,.box q.row,.box jW]++([lf,mK,mK]++um 8 (n.runs.map fun r=>r.fresh.row))):=
  cj.mono (XQ n [.box n.row,.box q.row,.box jW] (by omega) (by omega) (by omega) (by omega) (by omega) (by omega) (fun r al=>by have:=ia r al;omega)) fun v ah h=>
   ⟨h.1,_,_,by simp[a2.under,cS,V.under,Net.row],by simp only[a2.under,h5];cases n.runs<;>simp[i5,cS,V.under],h.2⟩;refine bZ aCl (by simp[FF]) ?_;simp only[Net.row,Query.row,jW] at L2 de;simp-implicitDefEqProofs (disch:=omega) only[go_sem,FF,Net.row,Query.row];first|refine b0 (L2) ?_|refine bV (L2) ?_
 simp-implicitDefEqProofs (disch:=omega) only[go_sem];refine ew de ?_;rintro v ah ⟨rfl,lf,mK,v8,sT,rfl⟩;cases al:n.runs with
 |nil=>
  simp-implicitDefEqProofs (disch:=omega) only[go_sem,al,i5,um,lb,h5];refine gg 0 (fun i vs N=>vs=[.ptr 0 0,.ptr 1 0,.ptr 2 0,.ptr 6 0,.slice [] n.rQ,.int .i64 ((0:Nat):Int),.int .i64 i]/\N=[.box n.row,.box q.row,.box jW,lf,mK,mK,.box (h5 n 6 (.slice (n.cY.cH.map dk.row) (fC n.cY.cH.length)))]) ⟨rfl,by simp[Net.row,Query.row,jW,h5,al,i5]⟩ ?_ ?_
  . intro i _ _ hi;omega
  rintro vs N ⟨rfl,rfl⟩;simp-implicitDefEqProofs (disch:=omega) only[go_sem,dg,Net.row,Query.row,h5,al,i5,lb];refine cp (fun g=>?_) (fun g=>?_)
  . simp-implicitDefEqProofs (disch:=omega) only[go_sem,Net.row,Query.row,h5,al,i5,lb]
    refine PB (k:=6) (P:=[_,_,_,lf,mK,mK]) rfl n fs _ _ _ _ _ _ _ _ _ _ fun s x L ku C_ e2=>?_;rcases e2 with⟨rfl,ax⟩|⟨b,ver,rfl,dh,pc⟩
    . simp-implicitDefEqProofs (disch:=omega) only[go_sem,↓br 61,ku,C_,jW]
      simp[gF,g,al,ax,Bk,fC]
    . have Mg:∀fj bU b4 cG dl eY fQ:a2,(fj::bU::b4::cG::dl::eY::fQ::L)[7+b]? =some (.arr 4 ((n.paths.filter (·.free)).map Path.row) ver 0):=fun fj bU b4 cG dl eY fQ=>(iP [fj,bU,b4,cG,dl,eY,fQ] L b).trans dh
      have aT:((n.paths.filter (·.free)).map Path.row).take (n.paths.filter (·.free)).length=(n.paths.filter (·.free)).map Path.row:=g1 (by simp);have h7:decide (7+b<0)=false:=decide_eq_false (fb _);have zs:Bk (n.paths.filter (·.free))=.cv:=by
       cases aC:n.paths.filter (·.free) with
       |nil=>rw[aC] at pc;cases pc
       |cons _ _=>rfl
      simp-implicitDefEqProofs (disch:=omega) only[go_sem,↓br 61,ku,C_,jW,Mg,aT,h7];simp[gF,g,al,zs,fC]
  . simp-implicitDefEqProofs (disch:=omega) only[go_sem,↓br 61,jW,Net.row,Query.row,h5,al,i5,lb]
    simp[gF,g,al,fC]
 |cons fF rs=>
 have SX:rs.length+1<=7:=by rw[al] at dS;exact dS
 have lW:∀(i:Nat)(r:bS),(fF::rs)[i]? =some r->n.runs[i]? =some r:=fun i r h=>by rw[al];exact h
 simp-implicitDefEqProofs (disch:=omega) only[go_sem,al,i5,um,hQ,h5];refine ek (fF::rs) (fun i vs N=>vs=[.ptr 0 0,.ptr 1 0,.ptr 2 0,.ptr 7 0,.slice ((fF::rs).map bS.row) n.rQ,.int .i64 (fF::rs).length,.int .i64 i]/\
  N=[.box n.row,.box q.row,.box jW,lf,mK,mK,.arr 8 (ky (fun r=>(jd n q r).row) (fun r=>r.fresh.row) (fF::rs) i) 0 0,.box (h5 n 6 (.slice (n.cY.cH.map dk.row) (fC n.cY.cH.length)))]) ⟨rfl,by simp[Net.row,Query.row,jW,h5,al,i5,ky]⟩ ?_ ?_;rotate_left
 . rintro vs N ⟨rfl,rfl⟩
   have Ja:=US (fun r:bS=>(jd n q r).row) (fun r=>r.fresh.row) (fF::rs);rw[Ja];generalize fO:(fF::rs).map (fun r=>(jd n q r).row)=R;simp-implicitDefEqProofs (disch:=omega) only[go_sem,dg,Net.row,Query.row,h5,al,i5,hQ];have tv:R.length=rs.length+1:=by rw[<-fO];simp
   have K2:R.take (rs.length+1)=R:=g1 (by omega);have KY:decide (rs.length+1<=R.length)=true:=decide_eq_true (by omega);refine cp (fun g=>?_) (fun g=>?_)
   . simp-implicitDefEqProofs (disch:=omega) only[go_sem,Net.row,Query.row,h5,al,i5,hQ]
     refine PB (k:=7) (P:=[_,_,_,lf,mK,mK,_]) rfl n fs _ _ _ _ _ _ _ _ _ _ fun s x L ku C_ e2=>?_;rcases e2 with⟨rfl,ax⟩|⟨b,ver,rfl,dh,pc⟩
     . simp-implicitDefEqProofs (disch:=omega) only[go_sem,↓br 61,ku,C_,jW,K2,KY]
       simp[gF,g,al,ax,Bk,fC,<-fO]
     . have Mg:∀fj bU b4 cG dl eY fQ jq:a2,(fj::bU::b4::cG::dl::eY::fQ::jq::L)[8+b]? =some (.arr 4 ((n.paths.filter (·.free)).map Path.row) ver 0):=fun fj bU b4 cG dl eY fQ jq=>(iP [fj,bU,b4,cG,dl,eY,fQ,jq] L b).trans dh
       have aT:((n.paths.filter (·.free)).map Path.row).take (n.paths.filter (·.free)).length=(n.paths.filter (·.free)).map Path.row:=g1 (by simp);have h7:decide (8+b<0)=false:=decide_eq_false (fb _);have zs:Bk (n.paths.filter (·.free))=.cv:=by
        cases aC:n.paths.filter (·.free) with
        |nil=>rw[aC] at pc;cases pc
        |cons _ _=>rfl
       simp-implicitDefEqProofs (disch:=omega) only[go_sem,↓br 61,ku,C_,jW,Mg,aT,h7,K2,KY];simp[gF,g,al,zs,fC,<-fO]
   . simp-implicitDefEqProofs (disch:=omega) only[go_sem,↓br 61,jW,K2,KY,Net.row,Query.row,h5,al,i5,hQ]
     simp[gF,g,al,fC,<-fO]
 rintro i r vs N ph hi aw ⟨rfl,rfl⟩;have Ho:=lW i r ph;have T0:r∈n.runs:=dO Ho;have aw:decide ((i:Int)<((rs.length+1:Nat):Int))=true:=aw;have hi:i<rs.length+1:=hi;have kY:decide (i<rs.length+1)=true:=decide_eq_true hi;have aEP:decide (rs.length+1<=rs.length+1)=true:=decide_eq_true (cF _);have bR:=bH.runs.2 i r Ho;have sj:=bR.2.2.2.2.2.1;have hu:=aMT n q r bR.2.2.2.2.1 bH.fK;have ar:=aAk n q r.calls r.tag (by have:=ia r T0;omega) (fun x ab=>by
  obtain⟨k,ao⟩:=ij ab;exact(sj.2.2 k x ao).1);generalize xD:(r.calls.map fun x=>(ho n q x).row)=Z8 at ar;simp only[Net.row,Query.row,bS.row,al,hQ] at hu ar;have Tt:((fF::rs).map bS.row)[i]? =some [.int .i64 r.uu,.int .i64 r.day,.int .i64 r.inst,.str r.id,.int .i64 r.iu,.bool r.free,.bool r.gone,.slice (r.calls.map cd.row) r.tag]:=by
  rw[gY,ph];rfl
 have jA:=UU (fun r:bS=>(jd n q r).row) (fun r:bS=>r.fresh.row) (fF::rs) i;rw[show(fF::rs).length=rs.length+1 from rfl] at jA;have k2:(ky (fun r:bS=>(jd n q r).row) (fun r:bS=>r.fresh.row) (fF::rs) i)[i]? =some [.int .i64 r.uu,.int .i64 r.day,.int .i64 r.inst,.str r.id,.int .i64 r.iu,.bool r.free,.bool r.gone,.slice (r.calls.map cd.row) (fC r.calls.length)]:=UT ph;have nH:(ky (fun r:bS=>(jd n q r).row) (fun r:bS=>r.fresh.row) (fF::rs) i).set i [.int .i64 r.uu,.int .i64 r.day,.int .i64 r.inst,.str r.id,.int .i64 r.iu,.bool r.free,.bool (!El n q r),.slice Z8 .cv]=ky (fun r:bS=>(jd n q r).row) (fun r:bS=>r.fresh.row) (fF::rs) (i+1):=by
  have:=UV (f:=fun r:bS=>(jd n q r).row) (g:=fun r:bS=>r.fresh.row) ph;simp only[aBV n q r,xD] at this;exact this
 generalize ky (fun r:bS=>(jd n q r).row) (fun r:bS=>r.fresh.row) (fF::rs) i=R at jA k2 nH⊢;have aIS:∀row:List V,(R.set i row)[i]? =some row:=fun row=>eC (by omega);have aIT:∀row NP:List V,(R.set i row).set i NP=R.set i NP:=fun row NP=>List.set_set ..;have aIU:∀row:List V,(R.set i row).length=rs.length+1:=fun row=>by rw[eO];exact jA
 rw[hQ] at Tt;simp-implicitDefEqProofs (disch:=omega) only[go_sem,aw,Tt,Net.row,Query.row,h5,al,i5,hQ,dz,eD];refine bV hu ?_;simp-implicitDefEqProofs (disch:=omega) only[go_sem,jA,k2,kY];refine bV ar ?_;simp-implicitDefEqProofs (disch:=omega) only[go_sem,nH,aIS,aIT,aIU,kY];exact dC hi (by simp only[hK,dt,aY,cS,cL,jW,v8,sT,List.take];simp[a2.under,cS,V.under]) ⟨rfl,by simp[Net.row,Query.row,h5,al,i5,jW]⟩
end Go.aQ.C
namespace Go.aQ.C
open Go.aQ
theorem Au(n:Net)(q:Query)(c:cd):(ho n q c).stop=c.stop:=by
 unfold ho;split
 . split<;>rfl
 . rfl
theorem We(n:Net)(q:Query)(c:cd):(ho n q c).c_=c.c_:=by
 unfold ho;split
 . split<;>rfl
 . rfl
theorem N3(n:Net)(q:Query)(c:cd):(ho n q c).cB=c.cB:=by
 unfold ho;split
 . split<;>rfl
 . rfl
theorem map_some{α β:Type}{f:α->β}{l:List α}{i:Nat}{y:β}(h:(l.map f)[i]? =some y):∃x,l[i]? =some x/\y=f x:=by
 rw[gY] at h;obtain⟨x,ab,rfl⟩:=dJ.1 h;exact⟨x,ab,rfl⟩
theorem azR(n:Net)(q:Query){l:List cd}{stops low high:Int}(h:AL l stops low high):AL (l.map (ho n q)) stops low high:=by
 refine⟨by rw[eD];exact h.1,by rw[eD];exact h.2.1,fun i c ar=>?_⟩;obtain⟨x,ab,rfl⟩:=map_some ar;obtain⟨U,af,ay⟩:=h.2.2 i x ab;rw[Au,We,N3];refine⟨U,af,fun p hi ax=>?_⟩;obtain⟨y,aD,rfl⟩:=map_some ax;rw[Au,N3];exact ay y hi aD
theorem aLl(n:Net)(q:Query)(h:yR n):yR (gF n q):=by
 refine⟨by simp[gF];exact h.1,fun i r al=>?_⟩;obtain⟨x,ab,rfl⟩:=map_some (show(n.runs.map (jd n q))[i]? =some r from al);obtain⟨U,af,ay,be,bv,b7,dQ⟩:=h.2 i x ab;refine⟨U,af,ay,be,bv,azR n q b7,fun k o ao az=>?_⟩;obtain⟨y,aD,rfl⟩:=map_some (show(n.runs.map (jd n q))[k]? =some o from az);exact dQ k y ao aD
theorem aIq(n:Net)(q:Query)(h:yM n):yM (gF n q):=by
 refine⟨h.1,fun i l ag=>?_⟩;have mR:=h.2 i l ag;have hlen:(gF n q).runs.length=n.runs.length:=by simp[gF]
 refine⟨by rw[hlen];exact mR.src,by rw[hlen];exact mR.dst,mR.ne,fun a b bk aj=>?_,mR.uniq,mR.free,mR.key⟩;obtain⟨x,ab,rfl⟩:=map_some (show(n.runs.map (jd n q))[l.src.toNat]? =some a from bk);obtain⟨y,aD,rfl⟩:=map_some (show(n.runs.map (jd n q))[l.dst.toNat]? =some b from aj);obtain⟨U,af,ay,be⟩:=mR.calls x y ab aD;have a6:(jd n q x).calls.length=x.calls.length:=by simp[jd]
 have ba:(jd n q y).calls.length=y.calls.length:=by simp[jd]
 refine⟨by rw[a6];exact U,by rw[ba];exact af,fun c d ar aw=>?_,fun ak=>by rw[a6];exact be ak⟩;obtain⟨u,hu,rfl⟩:=map_some (show(x.calls.map (ho n q))[l.hY.toNat]? =some c from ar);obtain⟨w,hw,rfl⟩:=map_some (show(y.calls.map (ho n q))[l.j7.toNat]? =some d from aw);rw[Au,Au];exact ay u w hu hw
def V_(o p:Path):Prop:=o.src=p.src/\o.dst=p.dst/\o.free=p.free
theorem N6(l:List Path)(N:Nat):qL l N↔(∀p∈l,p.jR N/\p.src≠p.dst)/\l.Pairwise fun o p=>¬V_ o p:=by
 constructor
 . intro h
   refine⟨fun p ax=>?_,List.pairwise_iff_getElem.2 fun i j hi ap mT=>?_⟩
   . obtain⟨i,hi⟩:=ij ax
     exact⟨(h i p hi).1,(h i p hi).2.1⟩
   . exact(h j l[j] (gd ap)).2.2 i l[i] mT (gd hi)
 . rintro⟨U,af⟩ i p ax
   have hm:=U p (dO ax);refine⟨hm.1,hm.2,fun k o ao az=>?_⟩;obtain⟨hi,rfl⟩:=bn.1 ax;obtain⟨iV,rfl⟩:=bn.1 az;exact List.pairwise_iff_getElem.1 af k i iV hi ao
theorem aL0{l:List Path}{N:Nat}(f:Path->Bool)(h:qL l N):qL (l.filter f) N:=by
 rw[N6] at h⊢;exact⟨fun p ax=>h.1 p (oH.1 ax).1,h.2.filter _⟩
theorem QQ{l:List Path}{N:Nat}{F:Nat->Nat->Int}(cl:Bool)(h:oK l N true F):oK (l.filter (·.free)) N cl F:=by
 refine⟨fun p ax _=>?_,h.v7,fun D en iQ i j hi ap=>h.qn D en (fun p ax aC=>iQ p (oH.2 ⟨ax,aC rfl⟩) fun _=>aC rfl) i j hi ap,h.kl⟩;obtain⟨U,af⟩:=oH.1 ax;exact h.qX p U fun _=>af
theorem az0{W F:Nat->Nat->Int}{i k:Nat}(S7:i≠k->W i k<=F i k):(kS W F i k).filter (·.free)=kS F F i k:=by
 unfold kS;by_cases iU:i=k
 . rw[if_pos (.inl iU),if_pos (.inl iU)];rfl
 have U:=S7 iU;by_cases hw:14400<W i k
 . rw[if_pos (.inr hw),if_pos (.inr (by omega))];rfl
 rw[if_neg (show¬(i=k∨14400<W i k) by omega)];by_cases aC:14400<F i k
 . rw[if_pos (show i=k∨14400<F i k from .inr aC),if_neg (show¬(W i k<F i k/\F i k<=14400) by omega)]
   simp;omega
 . rw[if_neg (show¬(i=k∨14400<F i k) by omega),if_neg (show¬(F i k<F i k/\F i k<=14400) by omega)]
   by_cases he:F i k=W i k
   . rw[if_neg (show¬(W i k<F i k/\F i k<=14400) by omega)]
     simp[he]
   . rw[if_pos (show W i k<F i k/\F i k<=14400 by omega)]
     simp[he]
theorem Rs{α β:Type}{l:List α}{f g:α->List β}(h:∀x∈l,f x=g x):l.flatMap f=l.flatMap g:=by
 induction l with
 |nil=>rfl
 |cons a l bq=>
  rw[List.flatMap_cons,List.flatMap_cons,h a (by simp),bq fun x ab=>h x (by simp[ab])]
theorem aAj{l:List Path}{N:Nat}(ey:∀p∈l,p.jR N)(h:uz l N):uz (l.filter (·.free)) N:=by
 obtain⟨W,F,eu,bP,ag⟩:=h;refine⟨F,F,QQ false bP,QQ true bP,?_⟩;have hle:∀i k,i<N->k<N->i≠k->W i k<=F i k:=fun i k hi ao cr=>QR eu bP ey hi ao (gi cr);conv=>lhs;rw[ag]
 unfold gl;rw[List.filter_flatMap];refine Rs fun i hi=>?_;unfold k1;rw[List.filter_flatMap];exact Rs fun k ao=>az0 (hle i k (jY.1 hi) (jY.1 ao))
theorem Kp(n:Net)(q:Query)(ok:g2 n):g2 (gF n q):=by
 obtain⟨⟨s1,ds,vY,kH,NU,V8,aLp⟩,b8,dS,fr,fs,ia⟩:=ok;have ey:∀p∈n.paths,p.jR n.stops.length:=fun p ax=>by
  obtain⟨i,hi⟩:=ij ax;exact(NU i p hi).1
 refine⟨⟨s1,ds,aLl n q vY,aIq n q kH,?_,?_,aLp⟩,b8,by simp[gF];exact dS,fr,?_,fun r al=>?_⟩
 . show qL (if q.free=true then n.paths.filter (·.free) else n.paths) n.stops.length
   split
   . exact aL0 _ NU
   . exact NU
 . show uz (if q.free=true then n.paths.filter (·.free) else n.paths) n.stops.length
   split
   . exact aAj ey V8
   . exact V8
 . show(if q.free=true then n.paths.filter (·.free) else n.paths).length<=60
   split
   . exact jH (List.length_filter_le _ _) fs
   . exact fs
 . obtain⟨x,ab,rfl⟩:=ld.1 (show r∈n.runs.map (jd n q) from al)
   simp only[jd,eD];exact ia x ab
theorem aLK(n:Net)(q:Query){c:cd}(h:c.wf):(ho n q c).wf:=by
 unfold cd.wf at h⊢;rw[Au,We,N3];exact h
theorem PC(n:Net)(q:Query)(aK:n.wf):(gF n q).wf:=by
 obtain⟨U,af,ay,be,bv,b7⟩:=aK;refine⟨U,af,⟨fun r al=>?_,by simp[gF];exact ay.2⟩,be,?_,b7⟩
 . obtain⟨x,ab,rfl⟩:=ld.1 (show r∈n.runs.map (jd n q) from al)
   obtain⟨a,b,c,d,e,f,g⟩:=ay.1 x ab;refine⟨a,b,c,d,e,fun y aD=>?_,by simp[jd];exact g⟩;obtain⟨z,a7,rfl⟩:=ld.1 (show y∈x.calls.map (ho n q) from aD);exact aLK n q (f z a7)
 . show(∀s∈(if q.free=true then n.paths.filter (·.free) else n.paths),s.wf)/\(if q.free=true then n.paths.filter (·.free) else n.paths).length<=maxLen
   split
   . exact⟨fun s ak=>bv.1 s (oH.1 ak).1,jH (List.length_filter_le _ _) bv.2⟩
   . exact bv
end Go.aQ.C
namespace Go.aQ.C
open Go.aQ
def jT(z:Int):Nat:=if 0<=z/\z<=63 then 2^z.toNat else 0
theorem Ns(z:Int):jT z<18446744073709551616:=by
 unfold jT;split
 . exact W0 (by omega)
 . omega
theorem E2(z:Int):bQ av Di [.int .i64 z] (fun v=>v=.int .u64 (jT z:Nat)):=by
 refine bZ RE (by simp[Bt]) ?_;simp-implicitDefEqProofs (disch:=omega) only[go_sem,Bt];refine a5 (fun h=>?_) (fun h=>?_)
 . simp-implicitDefEqProofs (disch:=omega) only[go_sem]
   rw[jT,if_neg (by omega)];rfl
 simp-implicitDefEqProofs (disch:=omega) only[go_sem];refine a5 (fun af=>?_) (fun af=>?_)
 . simp-implicitDefEqProofs (disch:=omega) only[go_sem]
   rw[jT,if_neg (by omega)];rfl
 have xC:dB .shl .none (.int .u64 1) (.int .i64 z)=some (.int .u64 (jT z:Nat)):=by
  show ox .shl .u64 1 z=_;unfold ox;rw[decide_eq_false h];have a6:min z.toNat IntKind.u64.bits=z.toNat:=by
   show min z.toNat 64=z.toNat;omega
  have ba:(1:Int)*2^z.toNat=((2^z.toNat:Nat):Int):=by simp
  simp only[cond_false,a6,ba];rw[Eo _ (W0 (by omega)),jT,if_pos ⟨by omega,by omega⟩]
 simp-implicitDefEqProofs (disch:=omega) only[go_sem,xC]
theorem PU(s:Nat)(z:Int)(ak:s<18446744073709551616):bQ av Hw [.int .u64 s,.int .i64 z] (fun v=>v=.int .u64 ((s|||jT z:Nat):Int)):=by
 refine bZ RC (by simp[Br]) ?_;simp-implicitDefEqProofs (disch:=omega) only[go_sem,Br];first|refine b0 (E2 z) ?_|refine bV (E2 z) ?_
 simp-implicitDefEqProofs (disch:=omega) only[go_sem,D2 s (jT z) ak (Ns z)]
theorem PT(z:Int):bQ av Hu [.slice [[.int .i64 z]] .full] (fun v=>v=.int .u64 (jT z:Nat)):=by
 have az:=D2 0 (jT z) (by omega) (Ns z);rw[Nat.zero_or] at az;refine bZ Rz (by simp[Bo]) ?_;simp-implicitDefEqProofs (disch:=omega) only[go_sem,Bo];refine ek [z] (fun i vs M=>vs=[.int .u64 (if i=0 then 0 else(jT z:Int)),.slice [[.int .i64 z]] .full,.int .i64 ([z]:List Int).length,.int .i64 i]/\M=[]) ⟨rfl,rfl⟩ ?_ ?_;rotate_left
 . rintro vs M ⟨rfl,rfl⟩
   simp-implicitDefEqProofs (disch:=omega) only[go_sem,dg];rfl
 rintro i x vs M ab hi aw ⟨rfl,rfl⟩;have zu:i=0:=by simp at hi;exact hi
 subst zu;have aHj:x=z:=by simp at ab;exact ab.symm
 subst aHj;have oT:decide (((0:Nat):Int)<((1:Nat):Int))=true:=rfl;simp-implicitDefEqProofs (disch:=omega) only[go_sem,oT];first|refine b0 (E2 x) ?_|refine bV (E2 x) ?_
 have gm:dB .or .none (.int .u64 0) (.int .u64 (jT x:Nat))=some (.int .u64 (jT x:Nat)):=by
  show some (V.int .u64 (qk .u64 ((0:Nat):Int) (jT x:Nat)))=_;rw[az]
 simp-implicitDefEqProofs (disch:=omega) only[go_sem];refine c6 hi ⟨?_,rfl⟩;simpa[dt,aY] using az
structure ca where
 cR:Bool
 run:Int
 jb:Int
 gP:Int
 src:Int
 dst:Int
 cB:Int
 c_:Int
 stay:Bool
def ca.row(l:ca):List V:=[.bool l.cR,.int .i64 l.run,.int .i64 l.jb,.int .i64 l.gP,.int .i64 l.src,.int .i64 l.dst,.int .i64 l.cB,.int .i64 l.c_,.bool l.stay]
def n3(n:Net)(l:ca):Bool:=decide (0<=l.run)&&match n.runs[l.run.toNat]? with
 |some r=>decide (0<=l.jb)&&(decide (l.jb<l.gP)&&decide (l.gP<r.calls.length))
 |none=>false
theorem aBv(n:Net)(l:ca):bQ av H2 [.agg n.row,.agg l.row] (fun v=>v=.bool (n3 n l)):=by
 refine bZ Sa (by simp[BY]) ?_;simp-implicitDefEqProofs (disch:=omega) only[go_sem,BY,Net.row,ca.row];refine a5 (fun U=>?_) (fun U=>?_);rotate_left
 . simp-implicitDefEqProofs (disch:=omega) only[go_sem]
   rw[n3,decide_eq_false U];rfl
 simp-implicitDefEqProofs (disch:=omega) only[go_sem];refine a5 (fun af=>?_) (fun af=>?_);rotate_left
 . simp-implicitDefEqProofs (disch:=omega) only[go_sem]
   rw[n3,lJ (by omega)];simp
 obtain⟨r,al⟩:∃r,n.runs[l.run.toNat]? =some r:=⟨n.runs[l.run.toNat]'(by omega),by simp⟩;simp-implicitDefEqProofs (disch:=omega) only[go_sem];refine a5 (fun ay=>?_) (fun ay=>?_);rotate_left
 . simp-implicitDefEqProofs (disch:=omega) only[go_sem]
   rw[n3,al,decide_eq_false ay];simp
 simp-implicitDefEqProofs (disch:=omega) only[go_sem];refine a5 (fun be=>?_) (fun be=>?_);rotate_left
 . simp-implicitDefEqProofs (disch:=omega) only[go_sem]
   rw[n3,al,decide_eq_false be];simp
 simp-implicitDefEqProofs (disch:=omega) only[go_sem,al,bS.row];rw[n3,al,decide_eq_true U,decide_eq_true ay,decide_eq_true be];rfl
def rT(n:Net)(z:Int):Int:=match n.stops[z.toNat]? with|some s=>s.kh|none=>0
def r7(n:Net)(z:Int):Int:=match n.stops[z.toNat]? with|some s=>s.change|none=>0
def DY(n:Net)(z:Int):Int:=match n.fK[z.toNat]? with|some s=>s.mode|none=>0
def kR(n:Net)(i:Nat):List cd:=match n.runs[i]? with|some r=>r.calls|none=>[]
def pB(n:Net)(cs:List cd):Nat:=cs.foldl (fun z c=>z|||jT (rT n c.stop)) 0
theorem XA(n:Net)(cs:List cd):pB n cs<18446744073709551616:=by
 unfold pB;have:∀(cs:List cd)(a:Nat),a<18446744073709551616->cs.foldl (fun z c=>z|||jT (rT n c.stop)) a<18446744073709551616:=fun cs=>by
  induction cs with
  |nil=>exact fun a h=>h
  |cons c cs bq=>exact fun a h=>bq _ (D3 _ _ h (Ns _))
 exact this cs 0 (by omega)
theorem aNL(n:Net)(cs:List cd)(c:cd):pB n (cs++[c])=pB n cs|||jT (rT n c.stop):=by
 simp[pB,List.foldl_append]
def qg(n:Net)(l:ca):List cd:=((kR n l.run.toNat).drop l.jb.toNat).take ((l.gP+1).toNat -l.jb.toNat)
theorem Q9(n:Net)(l:ca):n3 n l=true↔0<=l.run/\∃r,n.runs[l.run.toNat]? =some r/\0<=l.jb/\l.jb<l.gP/\l.gP<r.calls.length:=by
 unfold n3;cases n.runs[l.run.toNat]? with
 |none=>simp
 |some r=>simp
theorem aNO(n:Net)(l:ca)(he:n3 n l=true)(bh:∀r∈n.runs,r.calls.length<=32/\∀c∈r.calls,0<=c.stop/\c.stop<n.stops.length):
 bQ av H3 [.agg n.row,.agg l.row] (fun v=>v=.int .u64 (pB n (qg n l):Nat)):=by
 obtain⟨a4,r,al,U,af,ay⟩:=(Q9 n l).1 he;obtain⟨s1,ds⟩:=bh r (dO al);have eN:qg n l=(r.calls.drop l.jb.toNat).take ((l.gP+1).toNat -l.jb.toNat):=by simp only[qg,kR,al]
 have CZ:∀c∈qg n l,0<=c.stop/\c.stop<n.stops.length:=fun c ar=>ds c (by
  rw[eN] at ar;exact List.mem_of_mem_drop (List.mem_of_mem_take ar));have eF:∀M,g7 5 (.slice (r.calls.map cd.row) r.tag) (some (.int .i64 l.jb)) (some (.int .i64 (l.gP+1))) none M=some (.slice ((qg n l).map cd.row) (nm r.tag (l.gP+1).toNat (r.calls.map cd.row).length (r.calls.map cd.row).length false)):=fun M=>by
  rw[Wi 5 (r.calls.map cd.row) r.tag .i64 .i64 l.jb (l.gP+1) M U (by omega) (by rw[eD];omega) (u9 (f:=cd.row) (fun _=>rfl) _),eN,List.map_take,List.map_drop]
 generalize nm r.tag (l.gP+1).toNat (r.calls.map cd.row).length (r.calls.map cd.row).length false=h6 at eF;have de:(qg n l).length<=32:=by rw[eN,iw,List.length_drop];omega
 generalize qg n l=cs at CZ eF de;refine bZ Sb (by simp[BZ]) ?_;simp-implicitDefEqProofs (disch:=omega) only[go_sem,BZ,Net.row,ca.row,al,bS.row,eF];refine ek cs (fun i vs M=>vs=[.ptr 0 0,.int .u64 (pB n (cs.take i):Nat),.slice (cs.map cd.row) h6,.int .i64 cs.length,.int .i64 i]/\M=[.box n.row,.box l.row]) ⟨rfl,rfl⟩ ?_ ?_;rotate_left
 . rintro vs M ⟨rfl,rfl⟩
   rw[g0];simp-implicitDefEqProofs (disch:=omega) only[go_sem,dg]
 rintro i c vs M ar hi aw ⟨rfl,rfl⟩;obtain⟨t1,t2⟩:=CZ c (dO ar);obtain⟨s,ak⟩:∃s,n.stops[c.stop.toNat]? =some s:=⟨n.stops[c.stop.toNat]'(by omega),by simp⟩;have a7:rT n c.stop=s.kh:=by simp only[rT,ak]
 have aT:pB n (cs.take (i+1))=pB n (cs.take i)|||jT s.kh:=by rw[hR,ar];simp[aNL,a7]
 simp-implicitDefEqProofs (disch:=omega) only[go_sem,aw,ar,cd.row,Net.row,ca.row,ak,Stop.row];first|refine b0 (PU _ _ (XA n (cs.take i))) ?_|refine bV (PU _ _ (XA n (cs.take i))) ?_
 simp-implicitDefEqProofs (disch:=omega) only[go_sem];rw[<-aT];exact dC hi rfl ⟨rfl,rfl⟩
end Go.aQ.C
namespace Go.aQ.C
open Go.aQ
theorem uT{α:Type}{l:List α}{i:Nat}{t:α}(h:l[i]? =some t):l.drop i=t::l.drop (i+1):=by
 obtain⟨hi,rfl⟩:=bn.1 h;exact qx hi
def AF(n:Net)(l:ca):Int:=IntKind.i64.wrap (pB n (qg n l):Nat)
def x1(n:Net)(l:ca):Int:=IntKind.i64.wrap (jT (DY n (match n.runs[l.run.toNat]? with|some r=>r.iu|none=>0)):Nat)
def Ar(n:Net)(l:ca):a1:=⟨l.cB,l.c_,AF n l,x1 n l⟩
def NO(n:Net)(l:ca)(r:a1):a1:=⟨r.cB,l.c_,qk .i64 r.gb (AF n l),qk .i64 r.eP (x1 n l)⟩
def kG(n:Net)(out:List a1)(l:ca):List a1:=
 if l.stay=true then(match out[out.length -1]? with|some r=>out.set (out.length -1) (NO n l r)|none=>out) else out++[Ar n l]
def px(n:Net):Bool->List ca->List a1->Int×List a1
 |_,[],out=>(0,out)
 |rG,l::ls,out=>if l.cR=true/\n3 n l=false then(9,[]) else if l.stay=true/\(l.cR=false∨rG=false) then(19,[])
  else px n l.cR ls (if l.cR=true then kG n out l else out)
def gL(n:Net)(aZ:List ca):Int×List a1:=px n false aZ []
def KK:List a1->c3
 |[]=>.nil
 |_::_=>.cv
def yQ(L:Mem)(x:V)(out:List a1):Prop:=(x=.slice [] .nil/\out=[])∨∃b ver,x=.aX (3+b) ver 0 out.length/\L[b]? =some (.arr 4 (out.map a1.row) ver 0)/\0<out.length
def I5(L L':Mem):Prop:=∀(i:Nat)(B:List V),L[i]? =some (a2.box B)->L'[i]? =some (a2.box B)
theorem EL{L:Mem}{x:V}{out:List a1}(h:yQ L x out)(K:Mem):yQ (L++K) x out:=by
 rcases h with h|⟨b,ver,U,af,ay⟩
 . exact .inl h
 . exact .inr ⟨b,ver,U,b6 af K,ay⟩
theorem aHQ(L K:Mem):I5 L (L++K):=fun i B h=>b6 h K
theorem Ur{L:Mem}{b:Nat}{sz ver fz:Nat}{rows:List (List V)}(h:L[b]? =some (.arr sz rows ver fz))(B:a2):I5 L (L.set b B):=fun i C hi=>by
 by_cases aj:b=i
 . subst aj;rw[h] at hi;cases hi
 . rw[dx aj];exact hi
theorem Z5{L:Mem}{x:V}{out:List a1}(h:yQ L x out)(A B C:a2)(r:a1)(aw:out.length<=1000):
 ∃b ver L',d0 false 4 32 x (.slice [[.int .i64 r.cB,.int .i64 r.c_,.int .i64 r.gb,.int .i64 r.eP]] .full) (A::B::C::L)=some (.aX (3+b) ver 0 (out.length+1),A::B::C::L')/\L'[b]? =some (.arr 4 ((out++[r]).map a1.row) ver 0)/\I5 L L':=by
 have u7:∀k(a b c:a2)(K:Mem),(a::b::c::K)[3+k]? =K[k]? :=fun k a b c K=>by rw[show 3+k=k+1+1+1 by omega];rfl
 have pX:∀k(a b c d:a2)(K:Mem),(a::b::c::K).set (3+k) d=a::b::c::K.set k d:=fun k a b c d K=>by rw[show 3+k=k+1+1+1 by omega];rfl
 rcases h with⟨rfl,rfl⟩|⟨b,ver,rfl,af,_⟩
 . refine⟨L.length,0,L++[.arr 4 [[.int .i64 r.cB,.int .i64 r.c_,.int .i64 r.gb,.int .i64 r.eP]] 0 0],?_,e0 L _,aHQ _ _⟩
   have hlen:(A::B::C::L).length=3+L.length:=by simp;omega
   simp only[d0,eJ,g3,fq,dz,gZ,ev,beq_self_eq_true,cond_true,Nat.reduceMul,Nat.reducePow,Nat.reduceLeDiff,decide_true,Bool.true_or,eR,List.nil_append,List.cons_append];rw[show L.length+1+1+1=3+L.length by omega]
 . refine⟨b,ver+1,L.set b (.arr 4 (out.map a1.row++[r.row]) (ver+1) 0),?_,?_,Ur af _⟩
   . have bb:(A::B::C::L)[3+b]? =some (.arr 4 (out.map a1.row) ver 0):=by rw[u7];exact af
     have:=s7 (bytes:=32) (n:=out.length) (r:=r.row) bb (by simp) rfl (by omega);rw[pX] at this;exact this
   . rw[eC (bn.1 af).1];simp
theorem O5(n:Net)(lf:a2)(x:V)(L:Mem)(out:List a1)(l:ca)(ab:yQ L x out)(he:n3 n l=true)(ak:l.stay=true->0<out.length)(xu:out.length<=1000)
 (bh:∀r∈n.runs,(r.calls.length<=32/\∀c∈r.calls,0<=c.stop/\c.stop<n.stops.length)/\0<=r.iu/\r.iu<n.fK.length):
 cj av Dz [.agg l.row,.ptr 0 0,.ptr 2 0] (.box n.row::lf::.box [x]::L) (fun v ah=>v=.tuple []/\∃df L',ah=.box n.row::lf::.box [df]::L'/\yQ L' df (kG n out l)/\I5 L L'):=by
 have MR:=aNO n l he fun r al=>(bh r al).1;obtain⟨a4,r,al,U,af,ay⟩:=(Q9 n l).1 he;obtain⟨_,fF,i4⟩:=bh r (dO al);obtain⟨y,aD⟩:∃y,n.fK[r.iu.toNat]? =some y:=⟨n.fK[r.iu.toNat]'(by omega),by simp⟩;have hm:x1 n l=IntKind.i64.wrap (jT y.mode:Nat):=by simp only[x1,al,DY,aD]
 simp only[Net.row,ca.row] at MR;have u7:∀k(a b c:a2)(K:Mem),(a::b::c::K)[3+k]? =K[k]? :=fun k a b c K=>by rw[show 3+k=k+1+1+1 by omega];rfl
 have pX:∀k(a b c d:a2)(K:Mem),(a::b::c::K).set (3+k) d=a::b::c::K.set k d:=fun k a b c d K=>by rw[show 3+k=k+1+1+1 by omega];rfl
 refine hx R7 (by simp[BV]) ?_;have tI:(.box n.row::lf::.box [x]::L:Mem).length=3+L.length:=by simp;omega
 have kX:∀(K:Mem)(B:a2),(K++[B])[K.length]? =some B:=fun K B=>by simp
 simp-implicitDefEqProofs (disch:=omega) only[go_sem,BV,kX,Net.row,ca.row];first|refine b0 (MR) ?_|refine bV (MR) ?_
 simp-implicitDefEqProofs (disch:=omega) only[go_sem,kX,al,bS.row,aD,fi.row];first|refine b0 (PT y.mode) ?_|refine bV (PT y.mode) ?_
 simp-implicitDefEqProofs (disch:=omega) only[go_sem,kX];have aHo:IntKind.i64.wrap (pB n (qg n l):Nat)=AF n l:=rfl;rw[aHo,<-hm];refine cp (fun g=>?_) (fun g=>?_);rotate_left
 . obtain⟨b,ver,L',iD,f3,sF⟩:=Z5 (EL ab [.box l.row]) (.box n.row) lf (.box [x]) (Ar n l) xu
   simp only[Ar,ca.row,Net.row] at iD;simp-implicitDefEqProofs (disch:=omega) only[go_sem,kX,iD];refine⟨_,_,rfl,?_,fun i B hi=>sF i B (b6 hi _)⟩;have lW:kG n out l=out++[Ar n l]:=by rw[kG,if_neg (by rw[g];simp)]
   rw[lW];exact .inr ⟨b,ver,by simp,f3,by simp⟩
 have pc:=ak g;rcases ab with⟨_,rfl⟩|⟨b,ver,rfl,af,_⟩
 . cases pc
 obtain⟨fF,pf⟩:∃fF,out[out.length -1]? =some fF:=⟨out[out.length -1],by simp⟩;have lW:kG n out l=out.set (out.length -1) (NO n l fF):=by rw[kG,if_pos g,pf]
 rw[lW];have lT:∀(i:Nat)(B:List V),L[i]? =some (a2.box B)->(L++[a2.box l.row])[i]? =some (a2.box B):=fun i B hi=>b6 hi _;have CC:=b6 af [.box l.row];have zi:=kX L (.box l.row);simp only[ca.row] at CC zi lT;generalize iR:L++[a2.box [.bool l.cR,.int .i64 l.run,.int .i64 l.jb,.int .i64 l.gP,.int .i64 l.src,.int .i64 l.dst,.int .i64 l.cB,.int .i64 l.c_,.bool l.stay]]=K at CC zi lT;have nq:=(bn.1 CC).1;have S3:∀X,(K.set b X)[b]? =some X:=fun X=>by rw[eC nq]
 have aDY:∀X Y,(K.set b X).set b Y=K.set b Y:=fun X Y=>List.set_set ..;have iq:(out.map a1.row)[out.length -1]? =some [.int .i64 fF.cB,.int .i64 fF.c_,.int .i64 fF.gb,.int .i64 fF.eP]:=by rw[gY,pf];rfl
 have aGq:out.length -1<(out.map a1.row).length:=by rw[eD];omega
 have aGL:∀X,((out.map a1.row).set (out.length -1) X)[out.length -1]? =some X:=fun X=>by rw[eC aGq]
 have aGM:∀X Y,((out.map a1.row).set (out.length -1) X).set (out.length -1) Y=(out.map a1.row).set (out.length -1) Y:=fun X Y=>List.set_set ..;have hU:decide (out.length -1<out.length)=true:=decide_eq_true (by omega);have vj:∀i v r o,m4 (.fo i v r o)=some (.fo i v r o):=fun _ _ _ _=>rfl;simp-implicitDefEqProofs (disch:=omega) only[go_sem,vj,u7,pX,CC,zi,S3,aDY,iq,aGL,aGM,hU];refine⟨_,_,rfl,.inr ⟨b,ver,by rw[eO],?_,by rw[eO];exact pc⟩,fun i B hi=>?_⟩
 . rw[S3,List.map_set];rfl
 . exact Ur CC _ i B (lT i B hi)
theorem O6(n:Net)(aZ:List ca)(c:c3)(aK:n.wf)(ok:g2 n)(ag:aZ.length<=1000):
 bQ av Dy [.agg n.row,.agg [.slice (aZ.map ca.row) c]] (fun v=>v=.tuple [.slice ((gL n aZ).2.map a1.row) (KK (gL n aZ).2),.int .i64 (gL n aZ).1]):=by
 have ar:=Jg n aK ok;have bh:∀r∈n.runs,(r.calls.length<=32/\∀c∈r.calls,0<=c.stop/\c.stop<n.stops.length)/\0<=r.iu/\r.iu<n.fK.length:=fun r al=>by
  obtain⟨i,hi⟩:=ij al;have h:=ok.ok.runs.2 i r hi;refine⟨⟨h.2.2.2.2.2.1.2.1,fun c ar=>?_⟩,h.2.2.2.2.1⟩;obtain⟨k,ao⟩:=ij ar;exact(h.2.2.2.2.2.1.2.2 k c ao).1
 simp only[Net.row] at ar;refine bZ R8 (by simp[BU]) ?_;simp-implicitDefEqProofs (disch:=omega) only[go_sem,BU,Net.row];first|refine b0 (ar) ?_|refine bV (ar) ?_
 simp-implicitDefEqProofs (disch:=omega) only[go_sem];refine ek aZ (fun i vs N=>∃rG out x L,vs=[.ptr 0 0,.ptr 2 0,.fn Dz [.ptr 0 0,.ptr 2 0],.bool rG,.slice (aZ.map ca.row) c,.int .i64 aZ.length,.int .i64 i]/\
  N=.box n.row::.box [.slice (aZ.map ca.row) c]::.box [x]::L/\yQ L x out/\(rG=true->0<out.length)/\out.length<=i/\px n rG (aZ.drop i) out=gL n aZ)
  ⟨false,[],_,[],rfl,rfl,.inl ⟨rfl,rfl⟩,(by intro h;cases h),(by simp),rfl⟩ ?_ ?_;rotate_left
 . rintro vs N ⟨rG,out,x,L,rfl,rfl,ab,al,az,hf⟩
   rw[List.drop_length] at hf;simp-implicitDefEqProofs (disch:=omega) only[go_sem,dg];have aC:gL n aZ=(0,out):=hf.symm;rw[aC];rcases ab with⟨rfl,rfl⟩|⟨b,ver,rfl,af,ay⟩
   . simp-implicitDefEqProofs (disch:=omega) only[go_sem,↓br 53]
     rfl
   . have u7:∀k(a b c:a2)(K:Mem),(a::b::c::K)[3+k]? =K[k]? :=fun k a b c K=>by rw[show 3+k=k+1+1+1 by omega];rfl
     have h7:decide (3+b<0)=false:=decide_eq_false (fb _);have aT:(out.map a1.row).take out.length=out.map a1.row:=g1 (by simp);have aEM:KK out=.cv:=by cases out with
      |nil=>cases ay
      |cons _ _=>rfl
     simp-implicitDefEqProofs (disch:=omega) only[go_sem,↓br 53,u7,af,h7,aT,aEM]
 rintro i l vs N p1 hi aw ⟨rG,out,x,L,rfl,rfl,ab,al,az,hf⟩;have aOr:l.row=[.bool l.cR,.int .i64 l.run,.int .i64 l.jb,.int .i64 l.gP,.int .i64 l.src,.int .i64 l.dst,.int .i64 l.cB,.int .i64 l.c_,.bool l.stay]:=rfl;rw[uT p1] at hf;have hex:=aBv n l;simp only[Net.row,ca.row] at hex;have kX:∀(K:Mem)(B:a2),(K++[B])[K.length]? =some B:=fun K B=>by simp
 have jL:∀(K:Mem)(B X:a2),(K++[B]).set K.length X=K++[X]:=fun K B X=>by simp
 simp-implicitDefEqProofs (disch:=omega) only[go_sem,aw,p1,ca.row,Net.row,kX,jL];rw[px] at hf;refine cp (fun aW=>?_) (fun aW=>?_);rotate_left
 . rw[if_neg (by rw[aW];simp)] at hf
   simp-implicitDefEqProofs (disch:=omega) only[go_sem,kX,aW];refine cp (fun bN=>?_) (fun bN=>?_)
   . rw[if_pos ⟨bN,.inl aW⟩] at hf
     simp-implicitDefEqProofs (disch:=omega) only[go_sem,kX,aW];rw[<-hf];rfl
   . rw[if_neg (by rw[bN];simp),if_neg (by rw[aW];simp),aW] at hf
     simp-implicitDefEqProofs (disch:=omega) only[go_sem,Net.row,kX,aW];refine c6 hi ⟨false,out,x,L++[.box l.row],rfl,?_,EL ab _,(by intro h;cases h),by omega,hf⟩;simp[ca.row,aW]
 simp-implicitDefEqProofs (disch:=omega) only[go_sem,kX,aW];simp only[aW] at hex;first|refine b0 (hex) ?_|refine bV (hex) ?_
 simp-implicitDefEqProofs (disch:=omega) only[go_sem];refine cp (fun a9=>?_) (fun a9=>?_);rotate_left
 . rw[if_pos ⟨aW,a9⟩] at hf
   simp-implicitDefEqProofs (disch:=omega) only[go_sem];rw[<-hf];rfl
 rw[if_neg (by rw[a9];simp)] at hf;simp-implicitDefEqProofs (disch:=omega) only[go_sem,kX,aW];refine cp (fun bN=>?_) (fun bN=>?_)
 . simp-implicitDefEqProofs (disch:=omega) only[go_sem,kX,aW]
   refine cp (fun c5=>?_) (fun c5=>?_);rotate_left
   . rw[if_pos ⟨bN,.inr c5⟩] at hf
     simp-implicitDefEqProofs (disch:=omega) only[go_sem];rw[<-hf];rfl
   have LD:px n true (aZ.drop (i+1)) (kG n out l)=gL n aZ:=by
    rw[if_neg (by rw[aW,c5];simp),if_pos aW,aW] at hf;exact hf
   have pR:=O5 n (.box [.slice (aZ.map ca.row) c]) x (L++[.box l.row]) out l (EL ab _) a9 (fun _=>al c5) (by omega) bh;simp only[Net.row,ca.row,aW] at pR;simp-implicitDefEqProofs (disch:=omega) only[go_sem,kX,aW];refine ew pR ?_;rintro v ah ⟨rfl,df,L',rfl,vu,ao⟩;have aj:=ao L.length _ (kX L _);simp-implicitDefEqProofs (disch:=omega) only[go_sem,Net.row,aj,aW];refine c6 hi ⟨true,kG n out l,df,L',rfl,rfl,vu,fun _=>?_,?_,LD⟩
   . unfold kG
     rw[if_pos bN];split
     . rw[eO];exact al c5
     . exact al c5
   . unfold kG
     rw[if_pos bN];split
     . rw[eO];omega
     . omega
 . have LD:px n true (aZ.drop (i+1)) (kG n out l)=gL n aZ:=by
    rw[if_neg (by rw[bN];simp),if_pos aW,aW] at hf;exact hf
   have pR:=O5 n (.box [.slice (aZ.map ca.row) c]) x (L++[.box l.row]) out l (EL ab _) a9 (fun h=>by rw[bN] at h;cases h) (by omega) bh;simp only[Net.row,ca.row,aW] at pR;simp-implicitDefEqProofs (disch:=omega) only[go_sem,kX,aW];refine ew pR ?_;rintro v ah ⟨rfl,df,L',rfl,vu,ao⟩;have aj:=ao L.length _ (kX L _);simp-implicitDefEqProofs (disch:=omega) only[go_sem,Net.row,aj,aW];refine c6 hi ⟨true,kG n out l,df,L',rfl,rfl,vu,fun _=>?_,?_,LD⟩
   . unfold kG
     rw[if_neg (by rw[bN];simp)];simp
   . unfold kG
     rw[if_neg (by rw[bN];simp)];rw[dT];simp;omega
end Go.aQ.C
namespace Go.aQ.C
open Go.aQ
theorem Ri(a b d:Int)(bk:el a)(aj:el b)(aw:el d)(a4:0<=d):bQ av HF [.int .i64 a,.int .i64 b,.int .i64 d] (fun v=>v=.bool (decide (b -a<=d))):=by
 obtain⟨bU,b4⟩:=bk;obtain⟨c4,dF⟩:=aj;obtain⟨d1,d2⟩:=aw;refine bZ RM (by simp[BB]) ?_;simp-implicitDefEqProofs (maxSteps:=3000000) (disch:=omega) only[go_sem,BB,Jn]
 repeat' (refine AJ (fun h=>?_) (fun h=>?_))
 all_goals
  rw[Bool.eq_iff_iff];simp only[decide_eq_true_eq,Oj,true_iff];omega
def pL(f:bd)(s:Int):Int:=if 0<f.mw/\f.mw<s then f.mw else s
theorem Fp(f:bd)(s:Int):bQ av Dl [.agg f.row,.int .i64 s] (fun v=>v=.int .i64 (pL f s)):=by
 refine bZ RG (by simp[Bv]) ?_;simp-implicitDefEqProofs (disch:=omega) only[go_sem,Bv,bd.row];refine a5 (fun h=>?_) (fun h=>?_)
 . simp-implicitDefEqProofs (disch:=omega) only[go_sem]
   refine a5 (fun af=>?_) (fun af=>?_)
   . simp-implicitDefEqProofs (disch:=omega) only[go_sem,pL]
     rw[if_pos ⟨h,af⟩]
   . simp-implicitDefEqProofs (disch:=omega) only[go_sem,pL]
     rw[if_neg (fun e=>af e.2)]
 . simp-implicitDefEqProofs (disch:=omega) only[go_sem,pL]
   rw[if_neg (fun e=>h e.1)]
theorem OD(n:Int):el (IntKind.i64.wrap n):=by rw[nz,el];split<;>omega
def part(l:List a1)(i k:Nat):List a1:=(l.drop i).take (k+1 -i)
theorem D5{l:List a1}{i k:Nat}(h:k<l.length):(part l i k).length=k+1 -i:=by simp[part];omega
theorem Ak{l:List a1}{i k:Nat}{r:a1}(h:r∈part l i k):r∈l:=List.mem_of_mem_drop (List.mem_of_mem_take h)
theorem aJU(l:List a1)(i k:Nat):((l.map a1.row).drop i).take (k+1 -i)=(part l i k).map a1.row:=by rw[part,List.map_take,List.map_drop]
def hO(f:bd)(p:dk)(l:List a1)(i:Nat):Int:=
 match l[i -1]?,l[i]? with
 |some a,some b=>if 0<i/\b.cB -a.c_<=f.within then max 0 (p.ga -f.lq) else p.ga
 |_,_=>p.ga
theorem Of{f:bd}{p:dk}{l:List a1}{i:Nat}(h:0<=p.ga/\p.ga<=1000000)(aw:0<=f.lq):0<=hO f p l i/\hO f p l i<=1000000:=by
 unfold hO;split
 . split<;>omega
 . omega
theorem Fq(f:bd)(p:dk)(l:List a1)(c:c3)(i:Nat)(aC:f.wf)(bR:f.hS)(ax:0<=p.ga/\p.ga<=1000000)(ag:∀r∈l,r.wf)(hi:i<l.length)(hlen:l.length<=maxLen):
 bQ av Dm [.agg f.row,.agg p.row,.slice (l.map a1.row) c,.int .i64 i] (fun v=>v=.int .i64 (hO f p l i)):=by
 have hm:maxLen=9223372036854775807:=by rfl
 obtain⟨d1,d2⟩:=bR.lq;refine bZ RK (by simp[Bz]) ?_;obtain⟨b,aj⟩:∃b,l[i]? =some b:=⟨l[i],by simp⟩;obtain⟨a,bk⟩:∃a,l[i -1]? =some a:=⟨l[i -1],by simp⟩;have aT:hO f p l i=if 0<i/\b.cB -a.c_<=f.within then max 0 (p.ga -f.lq) else p.ga:=by simp only[hO,bk,aj]
 simp-implicitDefEqProofs (disch:=omega) only[go_sem,Bz,bd.row,dk.row];refine a5 (fun U=>?_) (fun U=>?_);rotate_left
 . simp-implicitDefEqProofs (disch:=omega) only[go_sem,aT]
   rw[if_neg (fun e=>by omega)]
 simp-implicitDefEqProofs (disch:=omega) only[go_sem,bk,aj,a1.row];first|refine b0 (Ri _ _ _ (ag a (dO bk)).2.1 (ag b (dO aj)).1 aC.2.2.2.1 bR.within.1) ?_|refine bV (Ri _ _ _ (ag a (dO bk)).2.1 (ag b (dO aj)).1 aC.2.2.2.1 bR.within.1) ?_
 simp-implicitDefEqProofs (disch:=omega) only[go_sem];refine a5 (fun af=>?_) (fun af=>?_)
 . simp-implicitDefEqProofs (disch:=omega) only[go_sem,aT]
   rw[if_pos ⟨by omega,af⟩]
 . simp-implicitDefEqProofs (disch:=omega) only[go_sem,aT]
   rw[if_neg (fun e=>af e.2)]
structure bK where
 product:Int
 first:Int
 last:Int
 ga:Int
 deriving DecidableEq
def bK.row(t:bK):List V:=[.int .i64 t.product,.int .i64 t.first,.int .i64 t.last,.int .i64 t.ga]
def bK.wf(t:bK):Prop:=el t.product/\el t.first/\el t.last/\el t.ga
def e7(l:List bK):Int:=(l.map bK.ga).sum
def nS(f:bd)(n:Nat):Int:=if(j6 f).2≠0 then 20 else if 8<n then 33 else 0
theorem Fr(f:bd)(l:List a1)(c:c3)(aC:f.wf):bQ av Dn [.agg f.row,.slice (l.map a1.row) c] (fun v=>v=.int .i64 (nS f l.length)):=by
 refine bZ RL (by simp[BA]) ?_;simp-implicitDefEqProofs (disch:=omega) only[go_sem,BA,bd.row];first|refine b0 (D7 f aC) ?_|refine bV (D7 f aC) ?_
 simp-implicitDefEqProofs (disch:=omega) only[go_sem,ic];refine a5 (fun U=>?_) (fun U=>?_);rotate_left
 . simp-implicitDefEqProofs (disch:=omega) only[go_sem,nS]
   rw[if_pos U]
 simp-implicitDefEqProofs (disch:=omega) only[go_sem];refine a5 (fun af=>?_) (fun af=>?_)
 . simp-implicitDefEqProofs (disch:=omega) only[go_sem,nS]
   rw[if_neg (by simp[U]),if_pos (by omega)]
 . simp-implicitDefEqProofs (disch:=omega) only[go_sem,nS]
   rw[if_neg (by simp[U]),if_neg (by omega)]
end Go.aQ.C
