/- A part of the proof of TopBoard: the abstract machine, the code that the statement reaches, the contracts of its functions. Part 4. The text is made short by a program. -/
import Derived.Test.YtbndjigedmpplaaGreatB3
set_option linter.unusedSimpArgs false
set_option linter.unusedVariables false
set_option linter.unusedSectionVars false
set_option maxHeartbeats 1000000
set_option maxRecDepth 10000
open Bool renaming and_eq_true->cc,and_self->eQ,false_and->oS,false_eq_true->jh,not_eq_true'->lV
open Int renaming toNat_natCast->kU
open List renaming append_assoc->en,append_nil->fA,drop_eq_getElem_cons->qU,drop_zero->lW,getElem?_append_left->gp,getElem?_append_right->j_,getElem?_cons_zero->ji,getElem?_drop->kW,getElem?_eq_some_iff->bo,getElem?_map->gX,getElem?_of_mem->ir,getElem?_set_ne->dv,getElem?_set_self->eB,getElem?_take_of_lt->hA,length_append->dz,length_cons->dC,length_map->eu,length_nil->gY,length_set->eR,length_take->iS,map_cons->hY,map_nil->lq,mem_append->g9,mem_cons->jt,mem_cons_of_mem->n3,mem_cons_self->pV,mem_filter->oU,mem_map->lr,mem_of_getElem?->dQ,mem_range->ka,mem_singleton->gZ,not_mem_nil->mQ,range->c5,replicate->f_,take_add_one->iu,take_length->gB,take_of_length_le->g_
open Nat renaming add_mul->iv,add_zero->iT,le_refl->cH,le_trans->kb,lt_or_ge->mR,mul_one->kY,not_lt_zero->e8,sub_self->mS,zero_add->ee,zero_le->fR
open Ne renaming symm->gq
open Option renaming map_eq_some_iff->dK,map_some->lY
open Option.some renaming injEq->aW
namespace Go.aL.C
open Go.aL
def Small(l:List b_):Prop:=∀t∈l,0<=t.hv/\t.hv<=1000000
theorem Small.take{l:List b_}(h:Small l)(i:Nat):Small (l.take i):=fun t aV=>h t (List.mem_of_mem_take aV)
theorem aP_{f:bp}{n:Nat}:sd f n=0↔(k5 f).2=0/\n<=8:=by
 unfold sd;split
 . rename_i h;constructor
   . intro e;simp at e
   . intro e;exact absurd e.1 h
 . rename_i h
   split
   . constructor
     . intro e;simp at e
     . intro e;omega
   . simp only[ne_eq,Decidable.not_not] at h
     exact⟨fun _=>⟨h,by omega⟩,fun _=>rfl⟩
def v6(f:bp)(l:List bf)(t:b_)(next:Int):Int:=
 if t.product<0∨(f.cR.length:Int)<=t.product then 9
 else if t.first≠next∨t.last<t.first∨(l.length:Int)<=t.last then 8
 else match f.cR[t.product.toNat]? with
  |none=>9
  |some p=>if lE p (part l t.first.toNat t.last.toNat)=false then 34 else if t.hv≠io f p l t.first.toNat then 1 else 0
theorem aPc(l:List bf)(i k:Nat)(c:c4)(M:Mem)(i6:i<=k)(ao:k<l.length):
 hf 4 (.slice (l.map bf.row) c) (some (.int .i64 i)) (some (.int .i64 ((k:Int)+1))) none M=some (.slice ((part l i k).map bf.row) (ns c (k+1) l.length l.length false)):=by
 rw[Xf 4 _ c _ _ _ _ M (by omega) (by omega) (by simp;omega) (vk (f:=bf.row) (fun r=>rfl) l),eu];have a4:((i:Int)).toNat=i:=by omega
 have bd:((k:Int)+1).toNat=k+1:=by omega
 rw[a4,bd,aNe]
theorem aM9{f:bp}{l:List bf}{t:b_}{next:Int}(b7:f.ia)(h:v6 f l t next=0):
 t.first=next/\t.first<=t.last/\t.last<l.length/\0<=t.hv/\t.hv<=1000000:=by
 unfold v6 at h;split at h
 . simp at h
 rename_i aa;split at h
 . simp at h
 rename_i af;split at h
 . simp at h
 rename_i p ay;split at h
 . simp at h
 split at h
 . simp at h
 rename_i az;simp only[ne_eq,Decidable.not_not] at az;have:=O9 (f:=f) (l:=l) (i:=t.first.toNat) (b7.AH p (dQ ay)).1 b7.lF.1;omega
theorem LX{α:Type}{l:List α}{i:Nat}{t:α}(h:l[i]? =some t):l.drop i=t::l.drop (i+1):=by
 obtain⟨aa,af⟩:=bo.1 h;rw[qU aa,af]
def rZ(o:Option (List b_)):Bool:=o.isSome
def s5(o:Option (List b_)):Int:=match o with|some d=>g8 d|none=>0
def wa(o:Option (List b_)):Int:=match o with|some d=>(d.length:Int)|none=>0
def qO(o:Option (List b_)):b_:=match o with|some (t::_)=>t|_=>⟨0,0,0,0⟩
def kQ(o:Option (List b_)):List V:=[.bool (rZ o),.int .i64 (s5 o),.int .i64 (wa o),.int .i64 (qO o).product,.int .i64 (qO o).first,.int .i64 (qO o).last,.int .i64 (qO o).hv]
def ef(T:Nat->Option (List b_)):List V:=
 kQ (T 0)++kQ (T 1)++kQ (T 2)++kQ (T 3)++kQ (T 4)++kQ (T 5)++kQ (T 6)++kQ (T 7)++kQ (T 8)
def js(T:Nat->Option (List b_))(i:Nat)(o:Option (List b_)):Nat->Option (List b_):=fun j=>if j=i then o else T j
theorem Pg(T:Nat->Option (List b_))(i:Nat)(o:Option (List b_)):js T i o i=o:=if_pos rfl
theorem AT(T:Nat->Option (List b_)){i j:Nat}(o:Option (List b_))(h:j≠i):js T i o j=T j:=if_neg h
theorem aP1(T:Nat->Option (List b_))(i:Nat)(a b:Option (List b_)):js (js T i a) i b=js T i b:=by
 funext j;unfold js;split<;>rfl
theorem sW{p:Nat->Prop}(a8:p 0)(aa:p 1)(af:p 2)(az:p 3)(bh:p 4)(bC:p 5)(ca:p 6)(dY:p 7)(cp:p 8){j:Nat}(h:j<9):p j:=by
 match j,h with
 |0,_=>exact a8
 |1,_=>exact aa
 |2,_=>exact af
 |3,_=>exact az
 |4,_=>exact bh
 |5,_=>exact bC
 |6,_=>exact ca
 |7,_=>exact dY
 |8,_=>exact cp
theorem tC(T:Nat->Option (List b_)):(ef T).length=63:=rfl
theorem aEZ(T:Nat->Option (List b_)){j:Nat}(h:j<9):(ef T)[j*7]? =some (.bool (rZ (T j))):=
 sW (p:=fun j=>(ef T)[j*7]? =some (.bool (rZ (T j)))) rfl rfl rfl rfl rfl rfl rfl rfl rfl h
theorem aE0(T:Nat->Option (List b_)):(ef T)[0]? =some (.bool (rZ (T 0))):=rfl
theorem aE1(T:Nat->Option (List b_)):(ef T)[1]? =some (.int .i64 (s5 (T 0))):=rfl
theorem aE2(T:Nat->Option (List b_)){j:Nat}(h:j<9):(ef T)[j*7+1]? =some (.int .i64 (s5 (T j))):=
 sW (p:=fun j=>(ef T)[j*7+1]? =some (.int .i64 (s5 (T j)))) rfl rfl rfl rfl rfl rfl rfl rfl rfl h
theorem aE3(T:Nat->Option (List b_)){j:Nat}(h:j<9):(ef T)[j*7+2]? =some (.int .i64 (wa (T j))):=
 sW (p:=fun j=>(ef T)[j*7+2]? =some (.int .i64 (wa (T j)))) rfl rfl rfl rfl rfl rfl rfl rfl rfl h
theorem aE4(T:Nat->Option (List b_)){j:Nat}(h:j<9):(ef T)[j*7+3+2]? =some (.int .i64 (qO (T j)).last):=
 sW (p:=fun j=>(ef T)[j*7+3+2]? =some (.int .i64 (qO (T j)).last)) rfl rfl rfl rfl rfl rfl rfl rfl rfl h
theorem aE9(T:Nat->Option (List b_)){j:Nat}(h:j<9):((ef T).drop (j*7)).take 7=kQ (T j):=
 sW (p:=fun j=>((ef T).drop (j*7)).take 7=kQ (T j)) rfl rfl rfl rfl rfl rfl rfl rfl rfl h
theorem aE_(T:Nat->Option (List b_)){j:Nat}(h:j<9):((ef T).drop (j*7+3)).take 4=(qO (T j)).row:=
 sW (p:=fun j=>((ef T).drop (j*7+3)).take 4=(qO (T j)).row) rfl rfl rfl rfl rfl rfl rfl rfl rfl h
theorem Sr(T:Nat->Option (List b_)):(ef T).take 63=ef T:=rfl
theorem Ss(T:Nat->Option (List b_)):nq (ef T)=true:=rfl
theorem aE7(T:Nat->Option (List b_))(o:Option (List b_)){j:Nat}(h:j<9):g5 (ef T) (j*7) (kQ o)=ef (js T j o):=by
 refine sW (p:=fun j=>g5 (ef T) (j*7) (kQ o)=ef (js T j o)) ?_ ?_ ?_ ?_ ?_ ?_ ?_ ?_ ?_ h<;>simp[ef,g5,js,kQ]
theorem aE8{j:Nat}(h:j<9):g5 (ef (fun _=>none)) (j*7) [.bool true]=ef (js (fun _=>none) j (some [])):=by
 refine sW (p:=fun j=>g5 (ef (fun _=>none)) (j*7) [.bool true]=ef (js (fun _=>none) j (some []))) ?_ ?_ ?_ ?_ ?_ ?_ ?_ ?_ ?_ h<;>simp[ef,g5,js,kQ,rZ,s5,wa,qO,g8]
theorem FX(T:Nat->Option (List b_))(n:Nat):cT n (ef T)=true:=rfl
theorem Ph(T:Nat->Option (List b_))(i:Nat):js T i (T i)=T:=by funext j;unfold js;split<;>simp_all
theorem Su(T Fg:Nat->Option (List b_)):g5 (ef T) 0 (ef Fg)=ef Fg:=by
 simp[ef,kQ,g5]
theorem Sv:[V.bool false,.int .i64 0,.int .i64 0,.int .i64 0,.int .i64 0,.int .i64 0,.int .i64 0,.bool false,.int .i64 0,.int .i64 0,.int .i64 0,.int .i64 0,.int .i64 0,.int .i64 0,.bool false,.int .i64 0,.int .i64 0,.int .i64 0,.int .i64 0,.int .i64 0,.int .i64 0,.bool false,.int .i64 0,.int .i64 0,.int .i64 0,.int .i64 0,.int .i64 0,.int .i64 0,.bool false,.int .i64 0,.int .i64 0,.int .i64 0,.int .i64 0,.int .i64 0,.int .i64 0,.bool false,.int .i64 0,.int .i64 0,.int .i64 0,.int .i64 0,.int .i64 0,.int .i64 0,.bool false,.int .i64 0,.int .i64 0,.int .i64 0,.int .i64 0,.int .i64 0,.int .i64 0,.bool false,.int .i64 0,.int .i64 0,.int .i64 0,.int .i64 0,.int .i64 0,.int .i64 0,.bool false,.int .i64 0,.int .i64 0,.int .i64 0,.int .i64 0,.int .i64 0,.int .i64 0]=ef (fun _=>none):=by
 simp[ef,kQ,rZ,s5,wa,qO]
theorem aE5(T:Nat->Option (List b_))(M:Mem)(n:Nat):eY M n 20 (.agg (ef T))=some (.agg (ef T)):=by
 simp[eY,jI,ef,kQ,V.under]
attribute [irreducible] ef
def u1(o:Option (List b_))(s n:Int):Bool:=!rZ o||(decide (s<s5 o)||(decide (s=s5 o)&&decide (n<wa o)))
theorem Sd(o:Option (List b_))(s n:Int):bT au Ik [.agg (kQ o),.int .i64 s,.int .i64 n] (fun v=>v=.bool (u1 o s n)):=by
 refine bP SH (by simp[BQ]) ?_;simp-implicitDefEqProofs (disch:=omega) only[go_sem,BQ,kQ];refine ck (fun aa=>?_) (fun aa=>?_);rotate_left
 . simp-implicitDefEqProofs (disch:=omega) only[go_sem,u1,aa]
   rfl
 simp-implicitDefEqProofs (disch:=omega) only[go_sem];refine a5 (fun af=>?_) (fun af=>?_)
 . simp-implicitDefEqProofs (disch:=omega) only[go_sem,u1,aa,af]
   rfl
 simp-implicitDefEqProofs (disch:=omega) only[go_sem];refine a5 (fun az=>?_) (fun az=>?_)
 . simp-implicitDefEqProofs (disch:=omega) only[go_sem,u1,aa,az]
   simp
 . simp-implicitDefEqProofs (disch:=omega) only[go_sem,u1,aa,af,az]
   simp
def jj(f:bp)(l:List bf)(i k p:Nat)(R:Nat->Option (List b_)):Option (List b_):=
 match f.cR[p]? with
 |none=>none
 |some q=>if lE q (part l i k)=true then(R (k+1)).map (fun d=>⟨p,i,k,io f q l i⟩::d) else none
def nW(a c:Option (List b_)):Option (List b_):=match c with|none=>a|some d=>if u1 a (g8 d) d.length=true then some d else a
theorem yI(t:b_)(d:List b_):g8 (t::d)=t.hv+g8 d:=by simp[g8]
def PR(d:List b_):Prop:=0<=g8 d/\g8 d<=1000000*d.length/\d.length<=8
theorem aEK(f:bp)(l:List bf)(c:c4)(T:Nat->Option (List b_))(i k p:Nat)(q:ds)(d:List b_)(aD:f.wf)(b7:f.ia)(ag:∀r∈l,r.wf)(hlen:l.length<=8)
 (i6:i<=k)(ao:k<l.length)(aG:f.cR[p]? =some q)(l5:T (k+1)=some d)(aw:PR d):
 b9 au xU [.int .i64 i,.int .i64 k,.int .i64 p,.ptr 0 0,.ptr 1 0,.ptr 3 0] [.box f.row,.box [.slice (l.map bf.row) c],.box (ef fun _=>none),.box (ef T)]
  (fun v M=>v=.tuple []/\M=[.box f.row,.box [.slice (l.map bf.row) c],.box (ef fun _=>none),.box (ef (js T i (nW (T i) (jj f l i k p T))))]):=by
 have hm:maxLen=9223372036854775807:=by rfl
 have Dw:=dQ aG;obtain⟨d1,d2,aRd⟩:=aw;refine bP SF (by simp[BP]) ?_;simp-implicitDefEqProofs (disch:=omega) only[go_sem,BP,bp.row,aG,ds.row,aPc l i k _ _ i6 ao];first|refine b1 (Kh q (part l i k) _ (aD.1 q Dw) (fun r an=>ag r (Kb an)) (by rw[Ot (by omega)];omega)) ?_|refine bV (Kh q (part l i k) _ (aD.1 q Dw) (fun r an=>ag r (Kb an)) (by rw[Ot (by omega)];omega)) ?_
 simp-implicitDefEqProofs (disch:=omega) only[go_sem];refine ck (fun aa=>?_) (fun aa=>?_);rotate_left
 . have e:jj f l i k p T=none:=by simp only[jj,aG,aa];rfl
   simp-implicitDefEqProofs (disch:=omega) only[go_sem,e,nW,FX,Ph]
 have e:jj f l i k p T=some (⟨p,i,k,io f q l i⟩::d):=by simp only[jj,aG,aa,l5,if_true];rfl
 simp-implicitDefEqProofs (disch:=omega) only[go_sem,aG,ds.row];first|refine b1 (Se f q l c i aD b7 (b7.AH q Dw).1 ag (by omega) (by omega)) ?_|refine bV (Se f q l c i aD b7 (b7.AH q Dw).1 ag (by omega) (by omega)) ?_
 have an:=O9 (f:=f) (l:=l) (i:=i) (b7.AH q Dw).1 b7.lF.1;simp-implicitDefEqProofs (disch:=omega) only[go_sem,aE2,aE3,aE9,tC,l5,s5,wa];first|refine b1 (Sd (T i) _ _) ?_|refine bV (Sd (T i) _ _) ?_
 simp-implicitDefEqProofs (disch:=omega) only[go_sem];refine ck (fun af=>?_) (fun af=>?_)
 . have bd:nW (T i) (jj f l i k p T)=some (⟨p,i,k,io f q l i⟩::d):=by
    rw[e];simp only[nW,yI,dC,Int.natCast_succ,af,if_true]
   have ay:=aE7 T (some (⟨p,i,k,io f q l i⟩::d)) (j:=i) (by omega);simp only[kQ,rZ,s5,wa,qO,g5,yI,dC,Option.isSome,Int.natCast_succ] at ay;simp-implicitDefEqProofs (disch:=omega) only[go_sem,ay,tC,bd,FX]
 . have bd:nW (T i) (jj f l i k p T)=T i:=by
    rw[e];simp only[nW,yI,dC,Int.natCast_succ,af];simp
   simp-implicitDefEqProofs (disch:=omega) only[go_sem,bd,FX,Ph]
def k2(f:bp)(l:List bf)(i k:Nat)(R:Nat->Option (List b_))(a:Option (List b_)):Nat->Option (List b_)
 |0=>a
 |p+1=>nW (k2 f l i k R a p) (jj f l i k p R)
def kf(f:bp)(l:List bf)(i:Nat)(R:Nat->Option (List b_)):Nat->Option (List b_)
 |0=>none
 |j+1=>k2 f l i (i+j) R (kf f l i R j) f.cR.length
def fQ(f:bp)(l:List bf):Nat->Nat->Option (List b_)
 |0=>js (fun _=>none) l.length (some [])
 |j+1=>js (fQ f l j) (l.length -(j+1)) (kf f l (l.length -(j+1)) (fQ f l j) (j+1))
def jS(f:bp)(l:List bf):Nat->Option (List b_):=fQ f l l.length
theorem XC(f:bp)(l:List bf):∀(j i:Nat),j<=l.length->i+j<l.length->fQ f l j i=none
 |0,i,_,h=>by rw[fQ,AT _ _ (by omega)]
 |j+1,i,ap,h=>by rw[fQ,AT _ _ (by omega)];exact XC f l j i (by omega) (by omega)
theorem Rn(f:bp)(l:List bf)(i k p:Nat){R l1:Nat->Option (List b_)}(h:R (k+1)=l1 (k+1)):jj f l i k p R=jj f l i k p l1:=by
 unfold jj;rw[h]
def Div(f:bp)(l:List bf):Nat->List b_->Prop
 |i,[]=>i=l.length
 |i,t::d=>t.first=i/\v6 f l t i=0/\Div f l (t.last+1).toNat d
theorem aCW{f:bp}{l:List bf}{i k p:Nat}{R:Nat->Option (List b_)}{d:List b_}(h:jj f l i k p R=some d)(i6:i<=k)(ao:k<l.length)
 (fI:∀d,R (k+1)=some d->Div f l (k+1) d):Div f l i d:=by
 unfold jj at h;cases aG:f.cR[p]? with
 |none=>rw[aG] at h;simp at h
 |some q=>
  rw[aG] at h;simp only at h;split at h
  . rename_i ar
    rw[dK] at h;obtain⟨hF,aa,rfl⟩:=h;have ay:p<f.cR.length:=(bo.1 aG).1;refine⟨rfl,?_,?_⟩
    . rw[v6,if_neg (by simp only;omega),if_neg (by simp only;omega)]
      simp only[kU,aG];rw[if_neg (by simp[ar]),if_neg (by simp)]
    . have:((k:Int)+1).toNat=k+1:=by omega
      simp only[this];exact fI hF aa
  . simp at h
theorem Xq{a c:Option (List b_)}{d:List b_}(h:nW a c=some d):a=some d∨c=some d:=by
 unfold nW at h;cases c with
 |none=>exact .inl h
 |some e=>
  simp only at h;split at h
  . exact .inr h
  . exact .inl h
theorem Qf{f:bp}{l:List bf}{i k:Nat}{R:Nat->Option (List b_)}{a:Option (List b_)}(i6:i<=k)(ao:k<l.length)
 (fI:∀d,R (k+1)=some d->Div f l (k+1) d)(a9:∀d,a=some d->Div f l i d):∀(p:Nat)(d:List b_),k2 f l i k R a p=some d->Div f l i d
 |0,d,h=>a9 d h
 |p+1,d,h=>by
  rcases Xq h with aa|aa
  . exact Qf i6 ao fI a9 p d aa
  . exact aCW aa i6 ao fI
theorem P_{f:bp}{l:List bf}{i:Nat}{R:Nat->Option (List b_)}(fI:∀k d,i<=k->k<l.length->R (k+1)=some d->Div f l (k+1) d):
 ∀(j:Nat)(d:List b_),i+j<=l.length->kf f l i R j=some d->Div f l i d
 |0,d,_,h=>by simp[kf] at h
 |j+1,d,ap,h=>Qf (by omega) (by omega) (fun d aw=>fI (i+j) d (by omega) (by omega) aw) (fun d aw=>P_ fI j d (by omega) aw) _ d h
theorem KC(f:bp)(l:List bf):∀(j i:Nat)(d:List b_),j<=l.length->i<=l.length->fQ f l j i=some d->Div f l i d
 |0,i,d,_,hi,h=>by
  rw[fQ] at h;unfold js at h;split at h
  . simp only[aW] at h;subst h;assumption
  . simp at h
 |j+1,i,d,ap,hi,h=>by
  rw[fQ] at h;unfold js at h;split at h
  . rename_i e
    subst e;refine P_ (fun k d ao i7 aw=>?_) _ d (by omega) h;exact KC f l j (k+1) d (by omega) (by omega) aw
  . exact KC f l j i d (by omega) hi h
theorem zi{f:bp}{l:List bf}(b7:f.ia):∀(d:List b_)(i:Nat),Div f l i d->0<=g8 d/\g8 d<=1000000*d.length/\d.length+i<=l.length
 |[],i,h=>by simp only[Div] at h;subst h;simp[g8]
 |t::d,i,⟨aa,af,az⟩=>by
  obtain⟨aT,a2,bJ,c8,eI⟩:=aM9 b7 af;have:=zi b7 d _ az;rw[yI,dC];omega
theorem aPI{f:bp}{l:List bf}(b7:f.ia)(hlen:l.length<=8){j i:Nat}{d:List b_}(ap:j<=l.length)(hi:i<=l.length)(h:fQ f l j i=some d):PR d:=by
 have:=zi b7 d i (KC f l j i d ap hi h);exact⟨this.1,this.2.1,by omega⟩
theorem aPp(a:Option (List b_)):nW a none=a:=rfl
theorem aCX{f:bp}{l:List bf}{i k p:Nat}{R:Nat->Option (List b_)}(h:R (k+1)=none):jj f l i k p R=none:=by
 unfold jj;rw[h];split
 . rfl
 . split<;>rfl
theorem Sc(f:bp)(l:List bf)(c:c4)(aD:f.wf)(b7:f.ia)(ag:∀r∈l,r.wf)(hlen:l.length<=8):
 bT au Ij [.agg f.row,.slice (l.map bf.row) c] (fun v=>v=.agg (ef (jS f l))):=by
 have hm:maxLen=9223372036854775807:=by rfl
 have mb:=b7.len;have kn:=aE8 (j:=l.length) (by omega);simp only[g5] at kn;refine bP SG (by simp[BO]) ?_;simp-implicitDefEqProofs (disch:=omega) only[go_sem,BO,bp.row,Sv,tC,kn];refine ge l.length (fun j vs M=>vs=[.ptr 0 0,.ptr 2 0,.ptr 3 0,.int .i64 l.length,.fn xU [.ptr 0 0,.ptr 1 0,.ptr 3 0],.int .i64 ((l.length:Int) -1 -j)]/\
  M=[.box f.row,.box [.slice (l.map bf.row) c],.box (ef fun _=>none),.box (ef (fQ f l j))]) ⟨by simp[dr,aX],by simp[bp.row,fQ]⟩ ?_ ?_;rotate_left
 . rintro vs M ⟨rfl,rfl⟩
   have aa:((l.length:Int) -1 -l.length)=-1:=by omega
   simp-implicitDefEqProofs (disch:=omega) only[go_sem,aa];refine a5 (fun af=>?_) (fun af=>?_)
   . omega
   simp-implicitDefEqProofs (disch:=omega) only[go_sem,tC];rw[Sr,Su,tC,Ss];simp only[go_sem,cond_true,Nat.reduceBEq];rw[tC,Sr];simp only[cond_true,Nat.reduceLeDiff,decide_true];rw[Wy,aE5];simp only[go_sem,jS,FX];all_goals rfl
 rintro j vs M ap lJ ⟨rfl,rfl⟩;obtain⟨i,hi⟩:∃i:Nat,(l.length:Int) -1 -j=i:=⟨l.length -1 -j,by omega⟩;simp-implicitDefEqProofs (disch:=omega) only[go_sem,hi];refine a5 (fun aa=>?_) (fun aa=>?_);rotate_left
 . omega
 simp-implicitDefEqProofs (disch:=omega) only[go_sem,bp.row];refine ge (j+1) (fun m vs M=>vs=[.ptr 0 0,.ptr 2 0,.ptr 3 0,.int .i64 l.length,.fn xU [.ptr 0 0,.ptr 1 0,.ptr 3 0],.int .i64 i,.int .i64 ((i+m:Nat):Int)]/\
  M=[.box f.row,.box [.slice (l.map bf.row) c],.box (ef fun _=>none),.box (ef (js (fQ f l j) i (kf f l i (fQ f l j) m)))]) ⟨by simp[dr,aX,hi],?_⟩ ?_ ?_
 . have e:fQ f l j i=none:=XC f l j i (by omega) (by omega)
   have bd:js (fQ f l j) i none=fQ f l j:=by rw[<-e,Ph]
   simp[bp.row,kf,bd]
 rotate_left
 . rintro vs M ⟨rfl,rfl⟩
   simp-implicitDefEqProofs (disch:=omega) only[go_sem];refine a5 (fun af=>?_) (fun af=>?_)
   . omega
   simp-implicitDefEqProofs (disch:=omega) only[go_sem,bp.row];have e:l.length -(j+1)=i:=by omega
   refine cS ap ⟨?_,?_⟩
   . have:(i:Int) -1=(l.length:Int) -1 -((j+1:Nat):Int):=by omega
     simp[dr,aX,this]
   . simp[fQ,e]
 rintro m vs M oh aRG ⟨rfl,rfl⟩;simp-implicitDefEqProofs (disch:=omega) only[go_sem];refine a5 (fun af=>?_) (fun af=>?_);rotate_left
 . omega
 simp-implicitDefEqProofs (disch:=omega) only[go_sem,bp.row];refine ge f.cR.length (fun p vs M=>vs=[.ptr 0 0,.ptr 2 0,.ptr 3 0,.int .i64 l.length,.fn xU [.ptr 0 0,.ptr 1 0,.ptr 3 0],.int .i64 i,.int .i64 ((i+m:Nat):Int),.int .i64 f.cR.length,.int .i64 p]/\
  M=[.box f.row,.box [.slice (l.map bf.row) c],.box (ef fun _=>none),.box (ef (js (fQ f l j) i (k2 f l i (i+m) (fQ f l j) (kf f l i (fQ f l j) m) p)))]) ⟨by simp[dr,aX],by simp[bp.row,k2]⟩ ?_ ?_;rotate_left
 . rintro vs M ⟨rfl,rfl⟩
   simp-implicitDefEqProofs (disch:=omega) only[go_sem,db,tC,bp.row];refine cS oh ⟨?_,?_⟩
   . have:((i+m:Nat):Int)+1=((i+(m+1):Nat):Int):=by omega
     simp only[dr,aX,this];rfl
   . simp only[kf]
 rintro p vs M ay aJL ⟨rfl,rfl⟩;obtain⟨q,aG⟩:∃q,f.cR[p]? =some q:=⟨f.cR[p],by simp⟩;have cD:i+m+1≠i:=by omega
 simp-implicitDefEqProofs (disch:=omega) only[go_sem,aJL,aEZ,AT _ _ cD,bp.row];refine ck (fun az=>?_) (fun az=>?_);rotate_left
 . have e:fQ f l j (i+m+1)=none:=by simpa[rZ] using az
   simp-implicitDefEqProofs (disch:=omega) only[go_sem,bp.row];refine cS ay ⟨?_,?_⟩
   . simp only[dr,aX];rfl
   . simp only[k2,aCX e,aPp]
 obtain⟨d,aw⟩:∃d,fQ f l j (i+m+1)=some d:=Option.isSome_iff_exists.1 az;simp-implicitDefEqProofs (disch:=omega) only[go_sem,bp.row];have l5:js (fQ f l j) i (k2 f l i (i+m) (fQ f l j) (kf f l i (fQ f l j) m) p) (i+m+1)=some d:=by rw[AT _ _ cD,aw]
 refine ew (aEK f l c _ i (i+m) p q d aD b7 ag hlen (by omega) (by omega) aG l5 (aPI b7 hlen (by omega) (by omega) aw)) ?_;rintro v M ⟨rfl,rfl⟩;simp-implicitDefEqProofs (disch:=omega) only[go_sem,bp.row];refine cS ay ⟨?_,?_⟩
 . simp only[dr,aX];rfl
 . have e:jj f l i (i+m) p (js (fQ f l j) i (k2 f l i (i+m) (fQ f l j) (kf f l i (fQ f l j) m) p))=jj f l i (i+m) p (fQ f l j):=Rn f l i (i+m) p (AT _ _ cD)
   simp only[k2,aP1,Pg,e]
end Go.aL.C
namespace Go.aL.C
open Go.aL
theorem XD(f:bp)(l:List bf):∀(m j i:Nat),l.length<=i+j->j+m<=l.length->fQ f l (j+m) i=fQ f l j i
 |0,_,_,_,_=>rfl
 |m+1,j,i,aa,af=>by
  rw[show j+(m+1)=(j+m)+1 from rfl,fQ,AT _ _ (by omega)];exact XD f l m j i aa (by omega)
theorem Lu{f:bp}{l:List bf}{i j:Nat}(h:l.length<=i+j)(ap:j<=l.length):jS f l i=fQ f l j i:=by
 have:=XD f l (l.length -j) j i h (by omega);rwa [Nat.add_sub_cancel' ap] at this
theorem QF(f:bp)(l:List bf):jS f l l.length=some []:=by
 rw[Lu (j:=0) (by omega) (by omega),fQ,Pg]
theorem Qe{f:bp}{l:List bf}{i k:Nat}{R l1:Nat->Option (List b_)}(a:Option (List b_))(h:R (k+1)=l1 (k+1)):∀p,k2 f l i k R a p=k2 f l i k l1 a p
 |0=>rfl
 |p+1=>by rw[k2,k2,Qe a h p,Rn f l i k p h]
theorem P9{f:bp}{l:List bf}{i:Nat}{R l1:Nat->Option (List b_)}:∀j,(∀k,i<=k->k<i+j->R (k+1)=l1 (k+1))->kf f l i R j=kf f l i l1 j
 |0,_=>rfl
 |j+1,h=>by rw[kf,kf,P9 j (fun k aa af=>h k aa (by omega)),Qe _ (h (i+j) (by omega) (by omega))]
theorem QH{f:bp}{l:List bf}{i:Nat}(hi:i<l.length):jS f l i=kf f l i (jS f l) (l.length -i):=by
 obtain⟨j,ap⟩:∃j,l.length=i+(j+1):=⟨l.length -i -1,by omega⟩;have a4:l.length -(j+1)=i:=by omega
 have bd:l.length -i=j+1:=by omega
 rw[Lu (j:=j+1) (by omega) (by omega),fQ,a4,Pg,bd];exact P9 _ fun k aa af=>(Lu (by omega) (by omega)).symm
theorem Qg{f:bp}{l:List bf}{i k:Nat}{R:Nat->Option (List b_)}{a:Option (List b_)}{d:List b_}:∀p,k2 f l i k R a p=some d->a=some d∨∃q,jj f l i k q R=some d
 |0,h=>.inl h
 |p+1,h=>by
  rcases Xq h with aa|aa
  . exact Qg p aa
  . exact .inr ⟨p,aa⟩
theorem Qa{f:bp}{l:List bf}{i:Nat}{R:Nat->Option (List b_)}{d:List b_}:∀j,kf f l i R j=some d->∃k p,i<=k/\k<i+j/\jj f l i k p R=some d
 |0,h=>by simp[kf] at h
 |j+1,h=>by
  rcases Qg _ h with aa|⟨q,aa⟩
  . obtain⟨k,p,a,b,c⟩:=Qa j aa
    exact⟨k,p,a,by omega,c⟩
  . exact⟨i+j,q,by omega,by omega,aa⟩
theorem ab9{f:bp}{l:List bf}{i:Nat}{hF:List b_}(hi:i<l.length)(h:jS f l i=some hF):
 ∃(t:b_)(d:List b_)(k:Nat),hF=t::d/\t.first=i/\t.last=k/\i<=k/\k<l.length/\jS f l (k+1)=some d:=by
 rw[QH hi] at h;obtain⟨k,p,aa,af,az⟩:=Qa _ h;unfold jj at az;cases aG:f.cR[p]? with
 |none=>rw[aG] at az;simp at az
 |some q=>
  rw[aG] at az;simp only at az;split at az
  . rw[dK] at az
    obtain⟨d,bh,rfl⟩:=az;exact⟨_,d,k,rfl,rfl,rfl,aa,by omega,bh⟩
  . simp at az
theorem zb{f:bp}{l:List bf}{i:Nat}{d:List b_}(hi:i<=l.length)(h:jS f l i=some d):Div f l i d:=KC f l l.length i d (cH _) hi h
def pZ(a c:Option (List b_)):Prop:=∀e,c=some e->∃dt,a=some dt/\g8 dt<=g8 e
theorem pZ.refl(a:Option (List b_)):pZ a a:=fun e h=>⟨e,h,Int.le_refl _⟩
theorem pZ.trans{a b c:Option (List b_)}(aa:pZ a b)(af:pZ b c):pZ a c:=fun e he=>by
 obtain⟨x,ad,az⟩:=af e he;obtain⟨y,aE,bh⟩:=aa x ad;exact⟨y,aE,by omega⟩
theorem QI(e:List b_)(s n:Int):u1 (some e) s n=(decide (s<g8 e)||(decide (s=g8 e)&&decide (n<(e.length:Int)))):=rfl
theorem Xp(a c:Option (List b_)):pZ (nW a c) a:=by
 intro e he;subst he;cases c with
 |none=>exact⟨e,rfl,Int.le_refl _⟩
 |some x=>
  simp only[nW];split
  . rename_i h
    refine⟨x,rfl,?_⟩;rw[QI] at h;simp only[Bool.or_eq_true,cc,decide_eq_true_eq] at h;omega
  . exact⟨e,rfl,Int.le_refl _⟩
theorem aPq(a c:Option (List b_)):pZ (nW a c) c:=by
 intro e he;subst he;simp only[nW];split
 . exact⟨e,rfl,Int.le_refl _⟩
 . rename_i h
   cases a with
   |none=>simp[u1,rZ] at h
   |some x=>
    refine⟨x,rfl,?_⟩;rw[QI] at h;simp only[Bool.or_eq_true,cc,decide_eq_true_eq] at h;omega
theorem Qi{f:bp}{l:List bf}{i k:Nat}{R:Nat->Option (List b_)}{a:Option (List b_)}:∀p,pZ (k2 f l i k R a p) a
 |0=>pZ.refl _
 |p+1=>(Xp _ _).trans (Qi p)
theorem Qh{f:bp}{l:List bf}{i k:Nat}{R:Nat->Option (List b_)}{a:Option (List b_)}{q:Nat}:∀p,q<p->pZ (k2 f l i k R a p) (jj f l i k q R)
 |p+1,h=>by
  rcases mR q p with aa|aa
  . exact(Xp _ _).trans (Qh p aa)
  . have:q=p:=by omega
    subst this;exact aPq _ _
theorem Qb{f:bp}{l:List bf}{i:Nat}{R:Nat->Option (List b_)}{m q:Nat}(aG:q<f.cR.length):∀j,m<j->pZ (kf f l i R j) (jj f l i (i+m) q R)
 |j+1,h=>by
  rcases mR m j with aa|aa
  . exact(Qi _).trans (Qb aG j aa)
  . have:m=j:=by omega
    subst this;exact Qh _ aG
theorem aM7{f:bp}{l:List bf}{t:b_}{i:Nat}(h:v6 f l t i=0):
 ∃(p k:Nat)(q:ds),t=⟨p,i,k,io f q l i⟩/\f.cR[p]? =some q/\i<=k/\k<l.length/\lE q (part l i k)=true:=by
 unfold v6 at h;split at h
 . simp at h
 rename_i aa;split at h
 . simp at h
 rename_i af;obtain⟨p,ay⟩:∃p:Nat,t.product=p:=⟨t.product.toNat,by omega⟩;obtain⟨k,ao⟩:∃k:Nat,t.last=k:=⟨t.last.toNat,by omega⟩;have hi:t.first=i:=by omega
 simp only[ay,ao,hi,kU] at h;split at h
 . simp at h
 rename_i q aG;split at h
 . simp at h
 rename_i az;split at h
 . simp at h
 rename_i bh;refine⟨p,k,q,?_,aG,by omega,by omega,by simpa using az⟩;cases t;simp_all
theorem aM8{f:bp}{l:List bf}{i p k:Nat}{q:ds}(aG:f.cR[p]? =some q)(aa:i<=k)(af:k<l.length)(az:lE q (part l i k)=true):v6 f l ⟨p,i,k,io f q l i⟩ i=0:=by
 have ay:p<f.cR.length:=(bo.1 aG).1;rw[v6,if_neg (by simp only;omega),if_neg (by simp only;omega)];simp only[kU,aG];rw[if_neg (by simp[az]),if_neg (by simp)]
theorem Bp{f:bp}{l:List bf}{i:Nat}{t:b_}{d:List b_}(h:Div f l i (t::d)):
 ∃(p k:Nat)(q:ds),t=⟨p,i,k,io f q l i⟩/\f.cR[p]? =some q/\i<=k/\k<l.length/\lE q (part l i k)=true/\Div f l (k+1) d:=by
 obtain⟨_,af,az⟩:=h;obtain⟨p,k,q,rfl,a,b,c,e⟩:=aM7 af;have:((k:Int)+1).toNat=k+1:=by omega
 simp only[this] at az;exact⟨p,k,q,rfl,a,b,c,e,az⟩
theorem LV{f:bp}{l:List bf}{i p k:Nat}{q:ds}{d:List b_}(aG:f.cR[p]? =some q)(aa:i<=k)(af:k<l.length)(az:lE q (part l i k)=true)(h:Div f l (k+1) d):
 Div f l i (⟨p,i,k,io f q l i⟩::d):=by
 refine⟨rfl,aM8 aG aa af az,?_⟩;have:((k:Int)+1).toNat=k+1:=by omega
 simp only[this];exact h
theorem QG{f:bp}{l:List bf}:∀(d:List b_)(i:Nat),Div f l i d->∃hF,jS f l i=some hF/\g8 hF<=g8 d
 |[],i,h=>by
  simp only[Div] at h;subst h;exact⟨[],QF f l,Int.le_refl _⟩
 |t::d,i,h=>by
  obtain⟨p,k,q,rfl,aG,aa,af,az,bh⟩:=Bp h;obtain⟨hF,a4,bd⟩:=QG d _ bh;have ar:jj f l i k p (jS f l)=some (⟨p,i,k,io f q l i⟩::hF):=by
   simp only[jj,aG,az,a4,if_true];rfl
  obtain⟨m,rfl⟩:∃m,k=i+m:=⟨k -i,by omega⟩;obtain⟨a,bW,b8⟩:=Qb (f:=f) (l:=l) (i:=i) (R:=jS f l) (m:=m) (bo.1 aG).1 (l.length -i) (by omega) _ ar;refine⟨a,by rw[QH (by omega),bW],?_⟩;rw[yI] at b8⊢;simp only at b8⊢;omega
def iZ(f:bp)(l:List bf):Int×List b_×Int:=
 if sd f l.length≠0 then(0,[],sd f l.length) else match jS f l 0 with
 |none=>(0,[],34)
 |some d=>(wW f (g8 d),d,0)
theorem Sa{f:bp}{l:List bf}(h:sd f l.length=0):iZ f l=match jS f l 0 with|none=>(0,[],34)|some d=>(wW f (g8 d),d,0):=by
 rw[iZ,if_neg (by simp[h])]
theorem aDO{f:bp}{l:List bf}{i:Nat}(h:Div f l i []):i=l.length:=h
def FT(r:Int×List b_×Int)(c:c4):V:=.tuple [.int .i64 r.1,.slice (r.2.1.map b_.row) c,.int .i64 r.2.2]
def LD(r:Int×List b_×Int):c4:=if r.2.2=0 then .cx else .nil
theorem aEJ(f:bp)(l:List bf)(c:c4)(aD:f.wf)(ag:∀r∈l,r.wf):
 bT au Ih [.agg f.row,.slice (l.map bf.row) c] (fun v=>v=FT (iZ f l) (LD (iZ f l))):=by
 have hm:maxLen=9223372036854775807:=by rfl
 refine bP SD (by simp[BM]) ?_;simp-implicitDefEqProofs (disch:=omega) only[go_sem,BM,bp.row];first|refine b1 (Sf f l c aD) ?_|refine bV (Sf f l c aD) ?_
 simp-implicitDefEqProofs (disch:=omega) only[go_sem];refine a5 (fun aa=>?_) (fun aa=>?_);rotate_left
 . have e:iZ f l=(0,[],sd f l.length):=by rw[iZ,if_pos aa]
   have ar:LD (0,[],sd f l.length)=.nil:=if_neg aa;simp-implicitDefEqProofs (disch:=omega) only[go_sem,e,FT];rw[ar];rfl
 obtain⟨ar,hlen⟩:=aP_.1 aa;have b7:=FG ar;simp-implicitDefEqProofs (disch:=omega) only[go_sem];first|refine b1 (Sc f l c aD b7 ag hlen) ?_|refine bV (Sc f l c aD b7 ag hlen) ?_
 simp-implicitDefEqProofs (disch:=omega) only[go_sem,Sv,tC,Ss,Su,aE0];refine ck (fun af=>?_) (fun af=>?_);rotate_left
 . have e:iZ f l=(0,[],34):=by
    rw[Sa aa];cases aj:jS f l 0 with
    |none=>rfl
    |some d=>simp[rZ,aj] at af
   simp-implicitDefEqProofs (disch:=omega) only[go_sem,e,FT];rfl
 obtain⟨d,aw⟩:∃d,jS f l 0=some d:=Option.isSome_iff_exists.1 af;have e:iZ f l=(wW f (g8 d),d,0):=by rw[Sa aa,aw]
 have aRH:=zi b7 d 0 (zb (by omega) aw);simp-implicitDefEqProofs (disch:=omega) only[go_sem];refine ej d (fun j vs M=>∃(i ver:Nat),jS f l i=some (d.drop j)/\i<=l.length/\vs=[.slice (l.map bf.row) c,.ptr 0 0,.ptr 1 0,.aZ 2 ver 0 j,.int .i64 i]/\
  M=[.box f.row,.box (ef (jS f l)),.arr 4 ((d.take j).map b_.row) ver 0]) ⟨0,0,by simpa using aw,by omega,rfl,by simp[bp.row]⟩ ?_ ?_;rotate_left
 . rintro vs M ⟨i,ver,aj,hi,rfl,rfl⟩
   rw[List.drop_length] at aj;have hi':i=l.length:=aDO (zb hi aj);subst hi';simp-implicitDefEqProofs (disch:=omega) only[go_sem,db,bp.row,aE1];first|refine b1 (Sb f _) ?_|refine bV (Sb f _) ?_
   simp-implicitDefEqProofs (disch:=omega) only[go_sem,gB,aw];rw[e];rfl
 rintro j t vs M aV ap lJ ⟨i,ver,aj,hi,rfl,rfl⟩;rw[LX aV] at aj;obtain⟨_,_,_,_,_,_,eN,_⟩:=Bp (zb hi aj);have km:i<l.length:=by omega
 obtain⟨hy,hF,k,he,Up,og,i8,l9,HR⟩:=ab9 km aj;obtain⟨rfl,rfl⟩:=List.cons.inj he;have l5:qO (jS f l i)=t:=by rw[aj];rfl
 simp-implicitDefEqProofs (disch:=omega) only[go_sem,bp.row];refine a5 (fun az=>?_) (fun az=>?_);rotate_left
 . omega
 have aJm:(d.take j).length=j:=by simp;omega
 simp-implicitDefEqProofs (disch:=omega) only[go_sem,bp.row,aE_,aE4,tC,l5,og,b_.row,aJm];refine cS ap ⟨k+1,ver+1,HR,by omega,?_,?_⟩
 . simp only[dr,aX];rfl
 . rw[iu,aV,List.map_append]
   simp only[Option.toList_some,hY,lq,b_.row,og]
def P1(l:List bf):Prop:=∀i a b,l[i]? =some a->l[i+1]? =some b->a.cf<=b.cf
theorem P1.le{l:List bf}(h:P1 l):∀(m i:Nat)(a b:bf),l[i]? =some a->l[i+m]? =some b->a.cf<=b.cf
 |0,i,a,b,a9,aj=>by rw[iT,a9] at aj;simp at aj;subst aj;exact Int.le_refl _
 |m+1,i,a,b,a9,aj=>by
  have bx:i+m+1<l.length:=(bo.1 aj).1;have ad:l[i+m]? =some l[i+m]:=by simp
  have aa:=h.le m i a _ a9 ad;have af:=h (i+m) _ b ad aj;omega
theorem Wq{l:List bf}{i k m:Nat}(h:k<m):part (l.take m) i k=part l i k:=by
 unfold part;rw[List.drop_take,List.take_take,Nat.min_eq_left (by omega)]
theorem XG{f:bp}{q:ds}{l:List bf}{i m:Nat}(h:i<m):io f q (l.take m) i=io f q l i:=by
 unfold io;rw[hA h,hA (by omega)]
theorem RS{f:bp}{l:List bf}{m:Nat}{e:List b_}(he:Div f l m e)(hm:m<=l.length):∀(d:List b_)(i:Nat),Div f (l.take m) i d->∃hF,Div f l i hF/\g8 hF=g8 d+g8 e
 |[],i,h=>by
  simp only[Div,iS] at h;have:i=m:=by omega
  subst this;exact⟨e,he,by simp[g8]⟩
 |t::d,i,h=>by
  obtain⟨p,k,q,rfl,aG,aa,af,az,bh⟩:=Bp h;rw[iS] at af;obtain⟨hF,a4,bd⟩:=RS he hm d (k+1) bh;rw[Wq (by omega)] at az;refine⟨_,LV aG aa (by omega) az a4,?_⟩;rw[yI,yI,bd,XG (by omega)];simp only;omega
theorem sZ{l:List bf}{j:Nat}:part l j j=(l.drop j).take 1:=by
 have:j+1 -j=1:=by omega
 unfold part;rw[this]
end Go.aL.C
namespace Go.aL.C
open Go.aL
def ui(l:cd):Int:=if l.cY=true∨l.cf<0∨l.cJ<l.cf∨14400<l.cJ -l.cf then 0 else l.cJ -l.cf
def mO:List cd->Int
 |[]=>0
 |l::ls=>ui l+mO ls
theorem aQt(a:List cd)(l:cd):mO (a++[l])=mO a+ui l:=by
 induction a with
 |nil=>simp[mO]
 |cons x a bu=>simp only[List.cons_append,mO,bu];omega
theorem aLr(l:cd):0<=ui l/\ui l<=14400:=by
 unfold ui;split<;>omega
theorem aQs(l:List cd):0<=mO l/\mO l<=14400*l.length:=by
 induction l with
 |nil=>simp[mO]
 |cons x l bu=>
  have:=aLr x;simp only[mO,dC];omega
def cd.wf(l:cd):Prop:=ev l.cf/\ev l.cJ
theorem abg(a3:List cd)(c:c4)(hw:∀l∈a3,l.wf)(ag:a3.length<=1000):bT au IJ [.agg [.slice (a3.map cd.row) c]] (fun v=>v=.int .i64 (mO a3)):=by
 refine bP S9 (by simp[Ce]) ?_;simp-implicitDefEqProofs (disch:=omega) only[go_sem,Ce];refine ej a3 (fun i vs M=>vs=[.int .i64 (mO (a3.take i)),.slice (a3.map cd.row) c,.int .i64 a3.length,.int .i64 i]/\M=[.box [.slice (a3.map cd.row) c]]) ⟨rfl,rfl⟩ ?_ ?_;rotate_left
 . rintro vs M ⟨rfl,rfl⟩
   rw[gB];simp-implicitDefEqProofs (disch:=omega) only[go_sem,db]
 rintro i l vs M ql hi aw ⟨rfl,rfl⟩;obtain⟨⟨d1,d2⟩,⟨bW,b8⟩⟩:=hw l (dQ ql);have aj:=aQs (a3.take i);have bx:(a3.take i).length<=1000:=by rw[iS];omega
 have aV:mO (a3.take (i+1))=mO (a3.take i)+ui l:=by rw[iu,ql];exact aQt _ _
 have a8:∀(p:Prop),p->(p->ui l=0)->mO (a3.take (i+1))=mO (a3.take i):=fun p ay h=>by rw[aV,h ay];omega
 simp-implicitDefEqProofs (disch:=omega) only[go_sem,aw,ql,cd.row];refine ck (fun aT=>?_) (fun aT=>?_)
 . simp-implicitDefEqProofs (disch:=omega) only[go_sem]
   exact dJ hi rfl ⟨by simp[dr,aX,a8 _ aT fun h=>if_pos (.inl h)],rfl⟩
 simp-implicitDefEqProofs (disch:=omega) only[go_sem];refine a5 (fun a2=>?_) (fun a2=>?_)
 . simp-implicitDefEqProofs (disch:=omega) only[go_sem]
   exact dJ hi rfl ⟨by simp[dr,aX,a8 _ a2 fun h=>if_pos (.inr (.inl h))],rfl⟩
 simp-implicitDefEqProofs (disch:=omega) only[go_sem];refine a5 (fun bJ=>?_) (fun bJ=>?_)
 . simp-implicitDefEqProofs (disch:=omega) only[go_sem]
   exact dJ hi rfl ⟨by simp[dr,aX,a8 _ bJ fun h=>if_pos (.inr (.inr (.inl h)))],rfl⟩
 simp-implicitDefEqProofs (disch:=omega) only[go_sem];refine a5 (fun c8=>?_) (fun c8=>?_)
 . simp-implicitDefEqProofs (disch:=omega) only[go_sem]
   exact dJ hi rfl ⟨by simp[dr,aX,a8 _ c8 fun h=>if_pos (.inr (.inr (.inr h)))],rfl⟩
 have UI:ui l=l.cJ -l.cf:=by unfold ui;rw[if_neg];rw[aT];simp;omega
 simp-implicitDefEqProofs (disch:=omega) only[go_sem];exact dJ hi rfl ⟨by simp[dr,aX,aV,UI],rfl⟩
structure n6 where
 cf:Int
 cJ:Int
 b5:Int
 xc:Int
 walk:Int
def n6.row(c:n6):List V:=[.int .i64 c.cf,.int .i64 c.cJ,.int .i64 c.b5,.int .i64 c.xc,.int .i64 c.walk]
def w1(q:Query)(a3:List cd):Int×Int:=match a3[0]?,a3[a3.length -1]? with
 |some a,some b=>(a.cf,b.cJ)
 |_,_=>(q.time,q.time)
def lD(n:Net)(q:Query)(a3:List cd):n6×List b_×Int:=
 if(hx n a3).1≠0 then(⟨0,0,0,0,0⟩,[],(hx n a3).1)
 else if(iZ n.dD (hx n a3).2).2.2≠0 then(⟨0,0,0,0,0⟩,[],(iZ n.dD (hx n a3).2).2.2)
 else(⟨(w1 q a3).1,(w1 q a3).2,(hx n a3).2.length,(iZ n.dD (hx n a3).2).1,mO a3⟩,(iZ n.dD (hx n a3).2).2.1,0)
def Bn(r:n6×List b_×Int)(d:c4):V:=.tuple [.agg r.1.row,.slice (r.2.1.map b_.row) d,.int .i64 r.2.2]
theorem Eu(a b:Int):ev (qH .i64 a b):=Px _
theorem aOk(n:Net){l:cd}(h:l.wf):(AL n l).wf:=⟨h.1,h.2,Px _,Px _⟩
theorem aOl(n:Net){out:List bf}{l:cd}(h:l.wf)(aA:∀r∈out,r.wf):∀r∈lQ n out l,r.wf:=by
 unfold lQ;split
 . split
   . rename_i fL a8
     intro r an;rcases List.mem_or_eq_of_mem_set an with aa|rfl
     . exact aA r aa
     . exact⟨(aA fL (dQ a8)).1,h.2,Eu _ _,Eu _ _⟩
   . exact aA
 . intro r an
   rcases g9.1 an with aa|aa
   . exact aA r aa
   . rw[gZ.1 aa];exact aOk n h
theorem WU(n:Net):∀(a3:List cd)(r4:Bool)(out:List bf),(∀l∈a3,l.wf)->(∀r∈out,r.wf)->∀r∈(r3 n r4 a3 out).2,r.wf
 |[],r4,out,_,aA=>aA
 |l::a3,r4,out,ag,aA=>by
  unfold r3;split
  . intro r an;cases an
  split
  . intro r an;cases an
  refine WU n a3 _ _ (fun x ad=>ag x (n3 _ ad)) ?_;split
  . exact aOl n (ag l (pV ..)) aA
  . exact aA
theorem aOn(n:Net){a3:List cd}(h:∀l∈a3,l.wf):∀r∈(hx n a3).2,r.wf:=WU n a3 false [] h fun r an=>by cases an
def FA(r:n6×List b_×Int):c4:=if r.2.2=0 then .cx else .nil
theorem YT(n:Net)(q:Query)(a3:List cd)(c:c4)(aK:n.wf)(ok:f4 n)(ag:a3.length<=1000)(hw:∀l∈a3,l.wf):
 bT au IG [.agg n.row,.agg q.row,.agg [.slice (a3.map cd.row) c]] (fun v=>v=Bn (lD n q a3) (FA (lD n q a3))):=by
 have an:=aa8 n a3 c aK ok ag;have ao:=abg a3 c hw ag;have ay:=fun d=>aEJ n.dD (hx n a3).2 d aK.dD (aOn n hw);simp only[Net.row,bp.row] at an ay;refine bP S5 (by simp[Ca]) ?_;simp-implicitDefEqProofs (disch:=omega) only[go_sem,Ca,Net.row,Query.row];first|refine b1 (an) ?_|refine bV (an) ?_
 simp-implicitDefEqProofs (disch:=omega) only[go_sem];refine a5 (fun aa=>?_) (fun aa=>?_);rotate_left
 . have e:lD n q a3=(⟨0,0,0,0,0⟩,[],(hx n a3).1):=by rw[lD,if_pos aa]
   have ar:FA (⟨0,0,0,0,0⟩,[],(hx n a3).1)=.nil:=if_neg aa;simp-implicitDefEqProofs (disch:=omega) only[go_sem,e,Bn,n6.row];rw[ar];rfl
 simp-implicitDefEqProofs (disch:=omega) only[go_sem];first|refine b1 (ay _) ?_|refine bV (ay _) ?_
 simp-implicitDefEqProofs (disch:=omega) only[go_sem,FT];refine a5 (fun af=>?_) (fun af=>?_);rotate_left
 . have e:lD n q a3=(⟨0,0,0,0,0⟩,[],(iZ n.dD (hx n a3).2).2.2):=by rw[lD,if_neg (by simp[aa]),if_pos af]
   have ar:FA (⟨0,0,0,0,0⟩,[],(iZ n.dD (hx n a3).2).2.2)=.nil:=if_neg af;simp-implicitDefEqProofs (disch:=omega) only[go_sem,e,Bn,n6.row];rw[ar];rfl
 simp-implicitDefEqProofs (disch:=omega) only[go_sem];first|refine b1 (ao) ?_|refine bV (ao) ?_
 simp-implicitDefEqProofs (disch:=omega) only[go_sem];have aq:lD n q a3=(⟨(w1 q a3).1,(w1 q a3).2,(hx n a3).2.length,(iZ n.dD (hx n a3).2).1,mO a3⟩,(iZ n.dD (hx n a3).2).2.1,0):=by
  rw[lD,if_neg (by simp[aa]),if_neg (by simp[af])]
 have i5:LD (iZ n.dD (hx n a3).2)=.cx:=if_pos af;refine⟨⟨bT.call ao rfl fun x ad _=>⟨ad,rfl⟩,fun h=>by cases h⟩,?_⟩;refine a5 (fun az=>?_) (fun az=>?_)
 . obtain⟨a,b,a9,aj⟩:=Sn (l:=a3) (by omega)
   have he:w1 q a3=(a.cf,b.cJ):=by simp only[w1,a9,aj]
   simp-implicitDefEqProofs (disch:=omega) only[go_sem,a9,aj,cd.row];rw[aq,he,i5];rfl
 . have he:w1 q a3=(q.time,q.time):=by
    have:a3=[]:=by cases a3 with
     |nil=>rfl
     |cons _ _=>simp at az
    rw[this];rfl
   simp-implicitDefEqProofs (disch:=omega) only[go_sem];rw[aq,he,i5];rfl
end Go.aL.C
namespace Go.aL.C
open Go.aL
def jk(f:bp):List V:=[.slice (f.cR.map ds.row) .cx,.int .i64 f.lF,.int .i64 f.within,.int .i64 f.pF]
def hP(f:bp)(l:List bf):Int:=match jS f l 0 with|some d=>g8 d|none=>-1
def hW(f:bp)(l:List bf)(i:Nat):Int:=if i<=l.length then hP f (l.take i) else 0
theorem aMu(f:bp):hP f []=0:=by
 have:=QF f [];simp only[gY] at this;simp[hP,this,g8]
theorem aPz(f:bp)(i:Nat):hW f [] i=0:=by
 unfold hW;split
 . rw[List.take_nil,aMu]
 . rfl
theorem V1{f:bp}{l:List bf}(b7:f.ia){d:List b_}(h:Div f l 0 d):0<=hP f l/\hP f l<=g8 d:=by
 obtain⟨hF,aa,af⟩:=QG d 0 h;have:=zi b7 _ _ (zb (by omega) aa);simp only[hP,aa];exact⟨this.1,af⟩
theorem Ob{f:bp}{l:List bf}(h:0<=hP f l):∃d,Div f l 0 d/\g8 d=hP f l:=by
 unfold hP at h⊢;cases aj:jS f l 0 with
 |none=>rw[aj] at h;simp at h
 |some d=>exact⟨d,zb (by omega) aj,rfl⟩
theorem aMt{f:bp}{l:List bf}(b7:f.ia)(h:hP f l<0):hP f l=-1:=by
 unfold hP at h⊢;cases aj:jS f l 0 with
 |none=>rfl
 |some d=>
  rw[aj] at h;have:=zi b7 _ _ (zb (by omega) aj);simp only at h;omega
theorem RT{f:bp}{l:List bf}:∀(d:List b_)(i:Nat),Div f l i d->i<l.length->
 ∃(ig:List b_)(p j:Nat)(q:ds),d=ig++[⟨p,j,(l.length -1:Nat),io f q l j⟩]/\f.cR[p]? =some q/\i<=j/\j<l.length/\lE q (part l j (l.length -1))=true/\Div f (l.take j) i ig
 |[],i,h,hi=>by simp only[Div] at h;omega
 |t::d,i,h,hi=>by
  obtain⟨p,k,q,rfl,aG,aa,af,az,bh⟩:=Bp h;rcases mR (k+1) l.length with bC|bC
  . obtain⟨ig,p',j,j6,rfl,a4,bd,e3,l4,mY⟩:=RT d (k+1) bh bC
    refine⟨⟨p,i,k,io f q l i⟩::ig,p',j,j6,rfl,a4,by omega,e3,l4,?_⟩;have vG:(l.take j).length=j:=by simp;omega
    have:=LV (f:=f) (l:=l.take j) (i:=i) (k:=k) (p:=p) (q:=q) (d:=ig) aG aa (by omega) (by rw[Wq (by omega)];exact az) mY;rw[XG (by omega)] at this;exact this
  . have ao:k=l.length -1:=by omega
    subst ao;have aw:d=[]:=by
     cases d with
     |nil=>rfl
     |cons t d=>
      obtain⟨_,_,_,_,_,_,ca,_⟩:=Bp bh;omega
    subst aw;exact⟨[],p,i,q,rfl,aG,cH _,hi,az,by simp only[Div,iS];omega⟩
theorem aPP(a b:List b_):g8 (a++b)=g8 a+g8 b:=by simp[g8,List.sum_append]
theorem XN(t:b_):g8 [t]=t.hv:=by simp[g8]
theorem Yh{f:bp}{l:List bf}(b7:f.ia){i p:Nat}{q:ds}(hi:i<l.length)(aG:f.cR[p]? =some q)(a8:0<=hP f (l.take i))(ar:lE q (part l i (l.length -1))=true):
 0<=hP f l/\hP f l<=hP f (l.take i)+io f q l i:=by
 obtain⟨d,aw,aV⟩:=Ob a8;have he:Div f l i [⟨p,i,(l.length -1:Nat),io f q l i⟩]:=LV aG (by omega) (by omega) ar (by simp only[Div];omega);obtain⟨hF,aa,af⟩:=RS he (by omega) d 0 aw;have:=V1 b7 aa;rw[af,aV,XN] at this;exact this
theorem aQu{f:bp}{l:List bf}(b7:f.ia)(ag:0<l.length)(h:0<=hP f l):
 ∃(i p:Nat)(q:ds),i<l.length/\f.cR[p]? =some q/\0<=hP f (l.take i)/\lE q (part l i (l.length -1))=true/\hP f (l.take i)+io f q l i<=hP f l:=by
 obtain⟨d,aw,aV⟩:=Ob h;obtain⟨ig,p,j,q,rfl,aa,af,az,bh,bC⟩:=RT d 0 aw ag;have:=V1 b7 bC;rw[aPP,XN] at aV;simp only at aV;exact⟨j,p,q,az,aa,this.1,bh,by omega⟩
def Way(f:bp)(l:List bf)(i p:Nat)(s:Int):Prop:=∃q,i<l.length/\f.cR[p]? =some q/\0<=hP f (l.take i)/\lE q (part l i (l.length -1))=true/\s=hP f (l.take i)+io f q l i
structure Seen(f:bp)(l:List bf)(V:Nat->Nat->Prop)(b:Int):Prop where
 made:b=-1∨0<=b/\∃i p,Way f l i p b
 least:∀i p s,V i p->Way f l i p s->0<=b/\b<=s
theorem Seen.done{f:bp}{l:List bf}{V:Nat->Nat->Prop}{b:Int}(b7:f.ia)(ag:0<l.length)(h:Seen f l V b)(l6:∀i p,i<l.length->p<f.cR.length->V i p):b=hP f l:=by
 rcases Int.lt_or_le (hP f l) 0 with a8|a8
 . rcases h.made with aa|⟨aa,i,p,q,af,az,bh,bC,_⟩
   . rw[aa,aMt b7 a8]
   . have:=Yh b7 af az bh bC;omega
 . obtain⟨i,p,q,aa,af,az,bh,bC⟩:=aQu b7 ag a8
   obtain⟨ca,dY⟩:=h.least i p _ (l6 i p aa (bo.1 af).1) ⟨q,aa,af,az,bh,rfl⟩;rcases h.made with cp|⟨_,eO,p',j6,aT,a2,bJ,c8,eI⟩
   . omega
   . have:=Yh b7 aT a2 bJ c8;omega
theorem Seen.skip{f:bp}{l:List bf}{V uV:Nat->Nat->Prop}{b:Int}{i p:Nat}(h:Seen f l V b)(aK:∀s,¬Way f l i p s)(l6:∀eO p',uV eO p'->V eO p'∨(eO=i/\p'=p)):Seen f l uV b:=
 ⟨h.made,fun eO p' s aq hw=>by
   rcases l6 eO p' aq with aa|⟨rfl,rfl⟩
   . exact h.least eO p' s aa hw
   . exact absurd hw (aK s)⟩
theorem Way.same{f:bp}{l:List bf}{i p:Nat}{s t:Int}(h:Way f l i p s)(k:Way f l i p t):s=t:=by
 obtain⟨q,_,af,_,_,bC⟩:=h;obtain⟨j6,_,ce,_,_,fl⟩:=k;rw[af] at ce;simp only[aW] at ce;subst ce;rw[bC,fl]
theorem Seen.take{f:bp}{l:List bf}{V uV:Nat->Nat->Prop}{b s:Int}{i p:Nat}(h:Seen f l V b)(hw:Way f l i p s)(a8:0<=s)(aj:b<0∨s<b)(l6:∀eO p',uV eO p'->V eO p'∨(eO=i/\p'=p)):Seen f l uV s:=
 ⟨.inr ⟨a8,i,p,hw⟩,fun eO p' aO aq gR=>by
   rcases l6 eO p' aq with aa|⟨rfl,rfl⟩
   . have:=h.least eO p' aO aa gR;omega
   . have:=hw.same gR;omega⟩
theorem Seen.fN{f:bp}{l:List bf}{V uV:Nat->Nat->Prop}{b s:Int}{i p:Nat}(h:Seen f l V b)(hw:Way f l i p s)(aj:¬b<0)(ak:¬s<b)(l6:∀eO p',uV eO p'->V eO p'∨(eO=i/\p'=p)):Seen f l uV b:=
 ⟨h.made,fun eO p' aO aq gR=>by
   rcases l6 eO p' aq with aa|⟨rfl,rfl⟩
   . exact h.least eO p' aO aa gR
   . have:=hw.same gR;omega⟩
theorem Seen.start{f:bp}{l:List bf}:Seen f l (fun _ _=>False) (-1):=⟨.inl rfl,fun _ _ _ h=>h.elim⟩
def jN(S:Nat->Int):List V:=[.int .i64 (S 0),.int .i64 (S 1),.int .i64 (S 2),.int .i64 (S 3),.int .i64 (S 4),.int .i64 (S 5),.int .i64 (S 6),.int .i64 (S 7),.int .i64 (S 8)]
theorem Xw(S:Nat->Int):(jN S).length=9:=rfl
theorem Xv(S:Nat->Int){i:Nat}(h:i<9):(jN S)[i]? =some (.int .i64 (S i)):=sW (p:=fun i=>(jN S)[i]? =some (.int .i64 (S i))) rfl rfl rfl rfl rfl rfl rfl rfl rfl h
theorem Xu(S:Nat->Int){i:Nat}(h:i<9):((jN S).drop (i*1))[0]? =some (.int .i64 (S i)):=by
 rw[kW,kY,iT,Xv S h]
theorem aPw(S:Nat->Int)(x:Int){i:Nat}(h:i<9):(jN S).set i (.int .i64 x)=jN (fun j=>if j=i then x else S j):=by
 refine sW (p:=fun i=>(jN S).set i (.int .i64 x)=jN (fun j=>if j=i then x else S j)) ?_ ?_ ?_ ?_ ?_ ?_ ?_ ?_ ?_ h<;>simp[jN]
theorem aPx(k:Nat)(S:Nat->Int):cT k (jN S)=true:=rfl
theorem aPv(a b c d e f g a8 aa af az bh bC ca dY cp:V)(S:Nat->Int):g5 [a,b,c,d,e,f,g,a8,aa,af,az,bh,bC,ca,dY,cp] 7 (jN S)=a::b::c::d::e::f::g::jN S:=rfl
def tF(f:bp)(aNw:V)(r:bf)(n:Int)(S:Nat->Int):List V:=
 .c7 (jk f)::aNw::.int .i64 r.cf::.int .i64 r.cJ::.int .i64 r.gf::.int .i64 r.eW::.int .i64 n::jN S
def gN(f:bp):List bf->V
 |[]=>.c7 (tF f .dE ⟨0,0,0,0⟩ 0 (hW f []))
 |r::rl=>.c7 (tF f (gN f rl) r ((rl.length+1:Nat):Int) (hW f (r::rl).reverse))
def nu(f:bp)(S:Nat->Int):List bf->List V
 |[]=>tF f .dE ⟨0,0,0,0⟩ 0 S
 |r::rl=>tF f (gN f rl) r ((rl.length+1:Nat):Int) S
theorem zw(f:bp)(rl:List bf):gN f rl=.c7 (nu f (hW f rl.reverse) rl):=by cases rl<;>rfl
theorem Ht(f:bp)(rl:List bf)(k:Nat):(gN f rl).under k=true:=by cases rl<;>rfl
def N2(rl:List bf):bf:=rl.headD ⟨0,0,0,0⟩
def WB(f:bp)(rl:List bf):V:=match rl with|[]=>.dE|_::rl=>gN f rl
theorem CR(f:bp)(S:Nat->Int)(rl:List bf):nu f S rl=tF f (WB f rl) (N2 rl) (rl.length:Nat) S:=by cases rl<;>rfl
def up:V->Nat->V
 |.c7 cells,k=>.gA (cells.drop k)
 |.ptr id o,k=>.ptr id (o+k)
 |v,_=>v
structure pW(M:Mem)(v:V)(cells:List V):Prop where
 nil:nS v=some v
 ld:∀k,k<=cells.length->kL k v=some (up v k)
 Ei:∀k(n:Nat) bZ L,k<=cells.length->g4 n bZ (up v k) (M++L)=iM n bZ (cells.drop k) 0
 aS:∀(k len:Nat)(i:Int),0<=i->i<(len:Int)->k+i.toNat<=cells.length->pC len 1 (up v k) (.int .i64 i)=some (up v (k+i.toNat))
theorem pW.c7(M:Mem)(cells:List V):pW M (.c7 cells) cells:=by
 refine⟨rfl,fun k h=>?_,fun k n bZ L _=>rfl,fun k len i a8 aa af=>?_⟩
 . simp only[kL,up,decide_eq_true h,cond_true]
 . have aw:decide (i.toNat<=(cells.drop k).length)=true:=decide_eq_true (by rw[List.length_drop];omega)
   simp only[up,pC,decide_eq_true a8,decide_eq_true aa,eQ,cond_true,kL,aw,List.drop_drop,kY]
theorem pW.ptr{M:Mem}{id:Nat}{cells:List V}(h:M[id]? =some (.box cells)):pW M (.ptr id 0) cells:=by
 refine⟨rfl,fun k _=>by simp[kL,up],fun k n bZ L ao=>?_,fun k len i a8 aa af=>?_⟩
 . simp only[up,ee,g4,bY h L]
   cases bZ with
   |false=>simp[iM]
   |true=>
    simp only[iM,List.length_drop,lW,ee];by_cases aj:k+n<=cells.length
    . rw[decide_eq_true aj,decide_eq_true (by omega)]
    . rw[decide_eq_false aj,decide_eq_false (by omega)]
 . simp only[up,pC,decide_eq_true a8,decide_eq_true aa,eQ,cond_true,kL,ee,kY]
end Go.aL.C
namespace Go.aL.C
open Go.aL
theorem xi(f:bp)(S:Nat->Int)(rl:List bf):(nu f S rl).length=16:=by rw[CR];rfl
theorem aMj(zero:List V)(sz bytes n:Nat)(M:Mem)(aK:n<=9)(aj:bytes<=32):m8 zero sz bytes (.int .i64 (n:Int)) (.int .i64 (n:Int)) M=some (.aZ M.length 0 0 n,M++[.arr sz (f_ n zero) 0 0]):=by
 have aa:(n:Int)*(bytes:Int)<=9*32:=Int.mul_le_mul (by omega) (by omega) (by omega) (by omega);have bW:decide (0<=(n:Int))=true:=decide_eq_true (by omega);have b8:decide ((n:Int)<=(n:Int))=true:=decide_eq_true (by omega);have cN:decide ((n:Int)*(bytes:Int)<=2^48)=true:=decide_eq_true (by omega);have dl:decide ((n:Int)<2^62)=true:=decide_eq_true (by omega);simp only[m8,bW,b8,cN,dl,kU,eQ,cond_true]
theorem aDC{a b:Nat}(h:a<b):decide (a<b)=true:=decide_eq_true h
def KS:List V:=[.int .i64 0,.int .i64 0,.int .i64 0,.int .i64 0]
def pH(rl:List bf)(j:Nat):List (List V):=f_ (rl.length -j) KS++((rl.take j).reverse).map bf.row
theorem aL5(rl:List bf){j:Nat}(h:j<=rl.length):(pH rl j).length=rl.length:=by simp[pH];omega
theorem aL6{rl:List bf}{j:Nat}{r:bf}(h:rl[j]? =some r):(pH rl j).set (rl.length -1 -j) r.row=pH rl (j+1):=by
 have ap:j<rl.length:=(bo.1 h).1;have e:rl.length -j=(rl.length -1 -j)+1:=by omega
 have bd:rl.length -(j+1)=rl.length -1 -j:=by omega
 rw[pH,pH,iu,h,bd,e,List.replicate_succ',en];simp
theorem aL4{rl:List bf}{j:Nat}(h:j<rl.length):(pH rl j)[rl.length -1 -j]? =some KS:=by
 rw[pH,gp (by simp;omega),List.getElem?_replicate];rw[if_pos (by omega)]
theorem aL3(rl:List bf):pH rl rl.length=rl.reverse.map bf.row:=by simp[pH]
theorem aL7(rl:List bf):f_ rl.length [V.int .i64 0,.int .i64 0,.int .i64 0,.int .i64 0]=pH rl 0:=by simp[pH,KS]
theorem P2{M:Mem}{v:V}{f:bp}{S:Nat->Int}{rl:List bf}(h:pW M v (nu f S rl))(aq:v.under M.length=true)(dZ:cq M.length M=true)(hlen:rl.length<=8):
 b9 au DP [v] M (fun x ah=>x=.slice (rl.reverse.map bf.row) .cx/\ah=M):=by
 have cV:∀(K:Mem)(B:a1),(K++[B])[K.length]? =some B:=fun K B=>by simp
 have is:∀(K:Mem)(B X:a1),(K++[B]).set K.length X=K++[X]:=fun K B X=>by simp
 have CX:∀(K:Mem)(B:a1),(K++[B]).take K.length=K:=fun K B=>by simp
 have k9:∀(K:Mem)(B:a1),decide (K.length<=(K++[B]).length)=true:=fun K B=>by simp
 have aHh:∀(K:Mem),decide (K.length<K.length)=false:=fun K=>by simp
 have ca:=h.ld 6 (by rw[xi];omega);have Mw:=h.Ei 6 1 false [] (by rw[xi];omega);have TV:=fun B=>h.Ei 6 1 false [B] (by rw[xi];omega);have zl:iM 1 false ((nu f S rl).drop 6) 0=some (.int .i64 (rl.length:Nat)):=by rw[CR];rfl
 rw[zl] at Mw TV;rw[fA] at Mw;refine bP SO (by simp[BX]) ?_;simp-implicitDefEqProofs (disch:=omega) only[go_sem,BX,h.nil,ca,Mw,TV,aMj,aL7];refine ge rl.length (fun j vs N=>∃FI S,(rl.drop j=[]∨pW M FI (nu f S (rl.drop j)))/\vs=[FI,.aZ M.length 0 0 rl.length,.int .i64 ((rl.length:Int) -1 -j)]/\N=M++[.arr 4 (pH rl j) 0 0]) ⟨v,S,.inr h,by simp[dr,aX],rfl⟩ ?_ ?_;rotate_left
 . rintro vs N ⟨FI,T,ar,rfl,rfl⟩
   have aa:((rl.length:Int) -1 -rl.length)=-1:=by omega
   simp-implicitDefEqProofs (disch:=omega) only[go_sem,aa];refine a5 (fun af=>?_) (fun af=>?_)
   . omega
   have aV:List.take rl.length (rl.reverse.map bf.row)=rl.reverse.map bf.row:=g_ (by simp);simp-implicitDefEqProofs (disch:=omega) only[go_sem,cV,CX,dZ,aHh,aL3,List.length_reverse,aV]
 rintro j vs N ap lJ ⟨FI,T,ar,rfl,rfl⟩;obtain⟨x,ad⟩:∃x,rl[j]? =some x:=⟨rl[j],by simp⟩;rw[sA ad] at ar;replace ar:=ar.resolve_left (by simp);have ce:=ar.ld 2 (by rw[xi];omega);have bI:=ar.ld 1 (by rw[xi];omega);have NR:=fun B=>ar.Ei 2 4 true [B] (by rw[xi];omega);have JN:=fun B=>ar.Ei 1 1 false [B] (by rw[xi];omega);have f2:iM 4 true ((nu f T (x::rl.drop (j+1))).drop 2) 0=some (.agg x.row):=rfl;have f1:iM 1 false ((nu f T (x::rl.drop (j+1))).drop 1) 0=some (gN f (rl.drop (j+1))):=rfl;rw[f2] at NR;rw[f1] at JN;obtain⟨i,hi⟩:∃i:Nat,(rl.length:Int) -1 -j=i:=⟨rl.length -1 -j,by omega⟩;have hi':i=rl.length -1 -j:=by omega
 have aB:=aL4 (rl:=rl) ap;rw[<-hi'] at aB;have e0:=aL6 ad;rw[<-hi'] at e0;simp only[bf.row] at e0 NR;simp-implicitDefEqProofs (disch:=omega) only[go_sem,hi];refine a5 (fun af=>?_) (fun af=>?_);rotate_left
 . omega
 simp-implicitDefEqProofs (disch:=omega) only[go_sem,ar.nil,bI,ce,JN,NR,cV,is,aL5 rl (Nat.le_of_lt ap),aB,KS,aDC,hi];refine cS ap ⟨gN f (rl.drop (j+1)),hW f (rl.drop (j+1)).reverse,.inr ?_,?_,?_⟩
 . rw[zw];exact pW.c7 _ _
 . have:(i:Int) -1=(rl.length:Int) -1 -((j+1:Nat):Int):=by omega
   simp[dr,aX,this]
 . rw[e0]
theorem Sh(a b d:Int)(a9:ev a)(aj:ev b)(aw:ev d)(a8:0<=d):bT au It [.int .i64 a,.int .i64 b,.int .i64 d] (fun v=>v=.bool (decide (b -a<=d))):=by
 obtain⟨bW,b8⟩:=a9;obtain⟨c2,dw⟩:=aj;obtain⟨d1,d2⟩:=aw;refine bP SV (by simp[B3]) ?_;simp-implicitDefEqProofs (maxSteps:=3000000) (disch:=omega) only[go_sem,B3,J6]
 repeat' (refine A2 (fun h=>?_) (fun h=>?_))
 all_goals
  rw[Bool.eq_iff_iff];simp only[decide_eq_true_eq,Pd,true_iff];omega
theorem P3(f:bp)(p:ds)(l:List bf)(c:c4)(i:Nat)(aD:f.wf)(b7:f.ia)(ay:0<=p.hv/\p.hv<=1000000)(ag:∀r∈l,r.wf)(hi:i<l.length)(hlen:l.length<=maxLen)
 {M:Mem}{v:V}{S:Nat->Int}{rl:List bf}(h:pW M v (nu f S rl))(dZ:cq M.length M=true):
 b9 au DQ [v,.agg p.row,.slice (l.map bf.row) c,.int .i64 i] M (fun v ah=>v=.int .i64 (io f p l i)/\ah=M):=by
 have hm:maxLen=9223372036854775807:=by rfl
 obtain⟨d1,d2⟩:=b7.lF;have cV:∀(K:Mem)(B:a1),(K++[B])[K.length]? =some B:=fun K B=>by simp
 have CX:∀(K:Mem)(B:a1),(K++[B]).take K.length=K:=fun K B=>by simp
 have k9:∀(K:Mem)(B:a1),decide (K.length<=(K++[B]).length)=true:=fun K B=>by simp
 have a8:=h.ld 0 (fR _);have Mu:=fun B=>h.Ei 0 1 false [B] (fR _);have fY:iM 1 false ((nu f S rl).drop 0) 0=some (.c7 (jk f)):=by rw[CR];rfl
 rw[fY] at Mu;have ma:∀cs,nS (.c7 cs)=some (.c7 cs):=fun _=>rfl;refine bP SP (by simp[BY]) ?_;obtain⟨b,aj⟩:∃b,l[i]? =some b:=⟨l[i],by simp⟩;obtain⟨a,a9⟩:∃a,l[i -1]? =some a:=⟨l[i -1],by simp⟩;have aV:io f p l i=if 0<i/\b.cf -a.cJ<=f.within then max 0 (p.hv -f.lF) else p.hv:=by simp only[io,a9,aj]
 simp-implicitDefEqProofs (disch:=omega) only[go_sem,BY,ds.row];refine a5 (fun aa=>?_) (fun aa=>?_);rotate_left
 . simp-implicitDefEqProofs (disch:=omega) only[go_sem,cV,aV,CX,dZ]
   rw[if_neg (fun e=>by omega)]
 simp-implicitDefEqProofs (disch:=omega) only[go_sem,h.nil,a8,Mu,ma,jk,a9,aj,bf.row];first|refine b1 (Sh _ _ _ (ag a (dQ a9)).2.1 (ag b (dQ aj)).1 aD.2.2.2.1 b7.within.1) ?_|refine bV (Sh _ _ _ (ag a (dQ a9)).2.1 (ag b (dQ aj)).1 aD.2.2.2.1 b7.within.1) ?_
 simp-implicitDefEqProofs (disch:=omega) only[go_sem];refine a5 (fun af=>?_) (fun af=>?_)
 . simp-implicitDefEqProofs (disch:=omega) only[go_sem,h.nil,a8,Mu,ma,jk,cV,aV,CX,dZ]
   rw[if_pos ⟨by omega,af⟩]
 . simp-implicitDefEqProofs (disch:=omega) only[go_sem,cV,aV,CX,dZ]
   rw[if_neg (fun e=>af e.2)]
def xh(f:bp):V:=gN f []
theorem abb(f:bp)(aD:f.wf):bT au DO [.agg f.row] (fun v=>((k5 f).2≠0->v=.tuple [.dE,.int .i64 20])/\((k5 f).2=0->v=.tuple [xh f,.int .i64 0])):=by
 refine bP SL (by simp[BU]) ?_;simp-implicitDefEqProofs (disch:=omega) only[go_sem,BU,bp.row];first|refine b1 (EB f aD) ?_|refine bV (EB f aD) ?_
 simp-implicitDefEqProofs (disch:=omega) only[go_sem,j5];refine a5 (fun aa=>?_) (fun aa=>?_);rotate_left
 . simp-implicitDefEqProofs (disch:=omega) only[go_sem,j5]
   simp[aa]
 have mb:=(FG aa).len;simp-implicitDefEqProofs (disch:=omega) only[go_sem,vk (f:=ds.row) (n:=6) (fun r=>rfl) f.cR,Bool.true_or];have ak:∀i,hW f [] i=0:=aPz f;have he:xh f=.c7 (.c7 (jk f)::.dE::.int .i64 0::.int .i64 0::.int .i64 0::.int .i64 0::.int .i64 0::[.int .i64 0,.int .i64 0,.int .i64 0,.int .i64 0,.int .i64 0,.int .i64 0,.int .i64 0,.int .i64 0,.int .i64 0]):=by
  simp only[xh,gN,tF,jN,ak]
 rw[he];rw[aDW];show true=true/\(((k5 f).2≠0->_=_)/\((k5 f).2=0->_=_))/\_;exact⟨rfl,⟨fun h=>absurd aa h,fun _=>rfl⟩,rfl,rfl⟩
theorem aPu(a b c d e f g:V)(S:Nat->Int){i:Nat}(h:i<9):(a::b::c::d::e::f::g::jN S)[7+i*1]? =some (.int .i64 (S i)):=by
 rw[kY,show 7+i=i+1+1+1+1+1+1+1 by omega];exact Xv S h
theorem aOS(a b c d e f g:V)(S:Nat->Int)(x:Int){i:Nat}(h:i<9):(a::b::c::d::e::f::g::jN S).set (7+i*1) (.int .i64 x)=a::b::c::d::e::f::g::jN (fun j=>if j=i then x else S j):=by
 rw[kY,show 7+i=i+1+1+1+1+1+1+1 by omega];simp only[List.set_cons_succ,aPw S x h]
theorem aba(f:bp)(r:bf)(aD:f.wf)(b7:f.ia)(an:r.wf){rl:List bf}(ag:∀x∈rl,x.wf)(hlen:rl.length<8):
 bT au Ip [gN f rl,.agg r.row] (fun v=>v=.tuple [gN f (r::rl),.int .i64 0]):=by
 have ma:∀cs,nS (.c7 cs)=some (.c7 cs):=fun _=>rfl;have HW:∀i o,nS (.ptr i o)=some (.ptr i o):=fun _ _=>rfl;have C_:∀cs,dN .eql .ptr (.c7 cs) .dE=some (.bool false):=fun _=>rfl;refine bP SN (by simp[BW]) ?_;have pi:gN f rl=.c7 (tF f (WB f rl) (N2 rl) (rl.length:Nat) (hW f rl.reverse)):=by rw[zw,CR]
 obtain⟨cs,fd,Nd,d6,ig,aJe,aDA⟩:∃cs,gN f rl=.c7 cs/\cs.length=16/\(cs.drop 6)[0]? =some (.int .i64 (rl.length:Nat))/\cs[0]? =some (.c7 (jk f))/\(cs.drop 7).length=9/\(cs.drop 7).take 9=jN (hW f rl.reverse):=
  ⟨_,pi,rfl,rfl,rfl,rfl,rfl⟩;rw[fd];simp-implicitDefEqProofs (disch:=omega) only[go_sem,BW,ma,C_,Nd,d6,bf.row];refine a5 (fun aa=>?_) (fun aa=>?_)
 . omega
 simp-implicitDefEqProofs (disch:=omega) only[go_sem,ma,Nd,d6,ig,aJe,aDA,Xw,aPv];have iy:nu f (hW f rl.reverse) (r::rl)=.c7 (jk f)::.c7 cs::.int .i64 r.cf::.int .i64 r.cJ::.int .i64 r.gf::.int .i64 r.eW::.int .i64 ((rl.length:Int)+1)::jN (hW f rl.reverse):=by
  rw[nu,tF,fd];rfl
 rw[<-iy];have m0:∀L:Mem,pW (.box r.row::.box (nu f (hW f rl.reverse) (r::rl))::L) (.ptr 1 0) (nu f (hW f rl.reverse) (r::rl)):=fun L=>pW.ptr rfl;have dZ:∀L:Mem,cq (L.length+2) L=true->cq (L.length+2) (.box r.row::.box (nu f (hW f rl.reverse) (r::rl))::L)=true:=fun L cV=>by
  simp[cq,a1.under,cT,V.under,bf.row,iy,aPx,cV]
 have ql:=P2 (m0 []) (by rfl) (dZ [] rfl) (by simp;omega);simp only[bf.row] at ql;refine ew ql ?_;rintro v N ⟨rfl,rfl⟩;rw[iy];simp-implicitDefEqProofs (disch:=omega) only[go_sem];have er:∀x∈(r::rl).reverse,x.wf:=by
  intro x ad;rw[List.mem_reverse,jt] at ad;rcases ad with rfl|ad
  . exact an
  . exact ag x ad
 have pp:(r::rl).reverse.length=rl.length+1:=by simp
 have DA:∀i,i<rl.length+1->hW f rl.reverse i=hP f ((r::rl).reverse.take i):=by
  intro i hi;rw[hW,if_pos (by simp;omega),List.reverse_cons,List.take_append_of_le_length (by simp;omega)]
 have Dc:gN f (r::rl)=.c7 (.c7 (jk f)::.c7 cs::.int .i64 r.cf::.int .i64 r.cJ::.int .i64 r.gf::.int .i64 r.eW::.int .i64 ((rl.length:Int)+1)::jN (hW f (r::rl).reverse)):=by
  rw[gN,tF,fd];rfl
 generalize zS:(r::rl).reverse=l at*;generalize aHy:hW f rl.reverse=S at*;generalize Dx:((rl.length:Int)+1)=Ko at*;have dc:∀X,X=[a1.box [.int .i64 r.cf,.int .i64 r.cJ,.int .i64 r.gf,.int .i64 r.eW],.box (.c7 (jk f)::.c7 cs::.int .i64 r.cf::.int .i64 r.cJ::.int .i64 r.gf::.int .i64 r.eW::.int .i64 Ko::jN S)]->X=X:=fun _ _=>rfl;refine ge l.length (fun i vs du=>∃b,Seen f l (fun eO _=>eO<i) b/\b<=9000000/\vs=[.c7 cs,.ptr 1 0,.slice (l.map bf.row) .cx,.int .i64 b,.int .i64 l.length,.int .i64 i]/\
  du=[.box [.int .i64 r.cf,.int .i64 r.cJ,.int .i64 r.gf,.int .i64 r.eW],.box (.c7 (jk f)::.c7 cs::.int .i64 r.cf::.int .i64 r.cJ::.int .i64 r.gf::.int .i64 r.eW::.int .i64 Ko::jN S)])
  ⟨-1,⟨.inl rfl,fun _ _ _ h=>absurd h (e8 _)⟩,by omega,by simp[dr,aX],rfl⟩ ?_ ?_;rotate_left
 . rintro vs du ⟨b,aj,ry,rfl,rfl⟩
   have xt:=aj.done b7 (by omega) (fun i p hi _=>hi);have H2:Ko=((rl.length+1:Nat):Int):=by omega
   have e0:=aOS (.c7 (jk f)) (.c7 cs) (.int .i64 r.cf) (.int .i64 r.cJ) (.int .i64 r.gf) (.int .i64 r.eW) (.int .i64 ((rl.length+1:Nat):Int)) S b (i:=rl.length+1) (by omega);subst H2;simp-implicitDefEqProofs (disch:=omega) only[go_sem,db,HW,e0,Xw];have dj:(fun j=>if j=rl.length+1 then b else S j)=hW f l:=by
    funext j;rcases Nat.lt_trichotomy j (rl.length+1) with az|az|az
    . rw[if_neg (by omega),DA j az,hW,if_pos (by omega)]
    . subst az
      rw[if_pos rfl,xt,hW,if_pos (by omega),<-pp,gB]
    . rw[if_neg (by omega),<-aHy,hW,hW,if_neg (by simp;omega),if_neg (by omega)]
   rw[dj,Dc,aDX];exact⟨rfl,rfl,rfl,rfl⟩
 rintro i vs du hi ba ⟨b,aj,ry,rfl,rfl⟩;have Db:∀k,k<=4->kL k (.c7 (jk f))=some (.gA ((jk f).drop k)):=fun k ao=>by simp[kL,jk,ao]
 simp-implicitDefEqProofs (disch:=omega) only[go_sem,ba,ma,Nd,ig,jk];refine ge f.cR.length (fun q vs eF=>∃b,Seen f l (fun eO p'=>eO<i∨eO=i/\p'<q) b/\b<=9000000/\vs=[.c7 cs,.ptr 1 0,.slice (l.map bf.row) .cx,.int .i64 b,.int .i64 i,.int .i64 l.length,.int .i64 i,.slice (f.cR.map ds.row) .cx,.int .i64 f.cR.length,.int .i64 q]/\
  eF=[.box [.int .i64 r.cf,.int .i64 r.cJ,.int .i64 r.gf,.int .i64 r.eW],.box (.c7 (jk f)::.c7 cs::.int .i64 r.cf::.int .i64 r.cJ::.int .i64 r.gf::.int .i64 r.eW::.int .i64 Ko::jN S)])
  ⟨b,⟨aj.made,fun eO p' s aq hw=>aj.least eO p' s (by omega) hw⟩,ry,by simp[dr,aX],rfl⟩ ?_ ?_;rotate_left
 . rintro vs eF ⟨b,aj,ry,rfl,rfl⟩
   simp-implicitDefEqProofs (disch:=omega) only[go_sem,db];refine cS hi ⟨b,⟨aj.made,fun eO p' s aq hw=>aj.least eO p' s ?_ hw⟩,ry,?_,rfl⟩
   . obtain⟨q,_,af,_⟩:=hw
     have:=(bo.1 af).1;omega
   . simp only[dr,aX];rfl
 rintro q vs eF aG aJS ⟨b,aj,ry,rfl,rfl⟩;obtain⟨oH,rJ⟩:∃oH,f.cR[q]? =some oH:=⟨f.cR[q],by simp⟩;have Nv:=dQ rJ;have Nt:=b7.len;have dg:(part l i (l.length -1)).length<=maxLen:=by
  have hm:maxLen=9223372036854775807:=by rfl
  rw[Ot (by omega)];omega
 have l5:=DA i (by omega);have l6:∀eO p',(eO<i∨eO=i/\p'<q+1)->(eO<i∨eO=i/\p'<q)∨(eO=i/\p'=q):=by intro eO p' h;omega
 obtain⟨cK,HY⟩:∃cK,∀M,hf 4 (.slice (l.map bf.row) .cx) (some (.int .i64 (i:Int))) none none M=some (.slice ((l.drop i).map bf.row) cK):=⟨_,fun M=>by
  rw[Xe 4 _ _ _ _ _ (by omega) (by rw[eu];omega) (vk (f:=bf.row) (fun _=>rfl) _),<-List.map_drop];rfl⟩;have Dq:l.drop i=part l i (l.length -1):=by unfold part;rw[g_ (by simp;omega)]
 rw[Dq] at HY;have Dz:=fun a b c d e g h=>aPu a b c d e g h S (i:=i) (by omega);simp-implicitDefEqProofs (disch:=omega) only[go_sem,aJS,rJ,ds.row,HW,Dz];refine a5 (fun az=>?_) (fun az=>?_)
 . simp-implicitDefEqProofs (disch:=omega) only[go_sem]
   refine dJ aG rfl ⟨b,aj.skip (i:=i) (p:=q) ?_ l6,ry,?_,rfl⟩
   . rintro s ⟨_,_,_,bh,_⟩
     rw[<-l5] at bh;omega
   . simp only[dr,aX];rfl
 simp-implicitDefEqProofs (disch:=omega) only[go_sem,HY];first|refine b1 (Kh oH (part l i (l.length -1)) cK (aD.1 oH Nv) (fun x ad=>er x (Kb ad)) dg) ?_|refine bV (Kh oH (part l i (l.length -1)) cK (aD.1 oH Nv) (fun x ad=>er x (Kb ad)) dg) ?_
 simp-implicitDefEqProofs (disch:=omega) only[go_sem];refine ck (fun bh=>?_) (fun bh=>?_);rotate_left
 . simp-implicitDefEqProofs (disch:=omega) only[go_sem]
   refine dJ aG rfl ⟨b,aj.skip (i:=i) (p:=q) ?_ l6,ry,?_,rfl⟩
   . rintro s ⟨j6,_,bC,_,ca,_⟩
     rw[rJ] at bC;simp only[aW] at bC;subst bC;rw[bh] at ca;simp at ca
   . simp only[dr,aX];rfl
 simp-implicitDefEqProofs (disch:=omega) only[go_sem,HW,Dz];have sR:=(b7.AH oH Nv).1;have aRP:=O9 (f:=f) (l:=l) (i:=i) sR b7.lF.1;have T5:0<=hP f (l.take i):=by rw[<-l5];omega
 have aRn:hP f (l.take i)<=8000000:=by
  obtain⟨d,a4,bd⟩:=Ob T5;have:=zi b7 _ _ a4;rw[iS] at this;omega
 have NK:Way f l i q (hP f (l.take i)+io f oH l i):=⟨oH,hi,rJ,T5,bh,rfl⟩;have qp:=P3 f oH l .cx i aD b7 sR er hi (by have hm:maxLen=9223372036854775807:=rfl;omega) (m0 [.box oH.row]) (dZ [.box oH.row] rfl);simp only[iy,bf.row,ds.row] at qp;refine ho qp ?_;simp-implicitDefEqProofs (disch:=omega) only[go_sem,HW,Dz,l5];refine a5 (fun bC=>?_) (fun bC=>?_)
 . simp-implicitDefEqProofs (disch:=omega) only[go_sem]
   refine dJ aG rfl ⟨_,aj.take NK (by omega) (.inl bC) l6,by omega,?_,rfl⟩;simp only[dr,aX];rfl
 simp-implicitDefEqProofs (disch:=omega) only[go_sem];refine a5 (fun ca=>?_) (fun ca=>?_)
 . simp-implicitDefEqProofs (disch:=omega) only[go_sem]
   refine dJ aG rfl ⟨_,aj.take NK (by omega) (.inr ca) l6,by omega,?_,rfl⟩;simp only[dr,aX];rfl
 . simp-implicitDefEqProofs (disch:=omega) only[go_sem]
   refine dJ aG rfl ⟨b,aj.fN NK bC ca l6,ry,?_,rfl⟩;simp only[dr,aX];rfl
end Go.aL.C
namespace Go.aL.C
open Go.aL
def Bb(v:V):Prop:=∃b:Bool,v=.bool b
structure Open where
 product:Int
 cf:Int
 b5:Int
 sum:Int
 gf:Nat
def Open.row(o:Open):List V:=[.int .i64 o.product,.int .i64 o.cf,.int .i64 o.b5,.int .i64 o.sum,.int .u64 o.gf]
theorem aOa(o x:Open):bT au Ir [.agg o.row,.agg x.row] Bb:=by
 refine bP SS (by simp[B1]) ?_;simp-implicitDefEqProofs (disch:=omega) only[go_sem,B1,Open.row]
 repeat' (first|simp-implicitDefEqProofs (disch:=omega) only[go_sem]|refine a5 (fun h=>?_) (fun h=>?_))
 all_goals exact⟨_,rfl⟩
theorem Zs(x:Nat):∃n,bT au IN [.int .u64 x] (fun v=>v=.int .i64 n):=by
 have ak:∀(a:Int)(c:Nat),dN .shr .none (.int .u64 a) (.int .u64 c)=some (.int .u64 (a.fdiv (2^min c 64))):=fun a c=>by
  show oL .shr .u64 a c=_;unfold oL;rw[decide_eq_false (by omega)];rfl
 have s1:∀a:Int,dN .shr .none (.int .u64 a) (.int .u64 1)=some (.int .u64 (a.fdiv (2^min 1 64))):=fun a=>ak a 1;have dq:∀a:Int,dN .shr .none (.int .u64 a) (.int .u64 2)=some (.int .u64 (a.fdiv (2^min 2 64))):=fun a=>ak a 2;have kR:∀a:Int,dN .shr .none (.int .u64 a) (.int .u64 4)=some (.int .u64 (a.fdiv (2^min 4 64))):=fun a=>ak a 4;have aOG:∀a:Int,dN .shr .none (.int .u64 a) (.int .u64 8)=some (.int .u64 (a.fdiv (2^min 8 64))):=fun a=>ak a 8;have aOD:∀a:Int,dN .shr .none (.int .u64 a) (.int .u64 16)=some (.int .u64 (a.fdiv (2^min 16 64))):=fun a=>ak a 16;have aOE:∀a:Int,dN .shr .none (.int .u64 a) (.int .u64 32)=some (.int .u64 (a.fdiv (2^min 32 64))):=fun a=>ak a 32;refine⟨?_,bP Td (by simp[Ci]) ?_⟩;rotate_left
 . simp-implicitDefEqProofs (disch:=omega) only[go_sem,Ci,s1,dq,kR,aOG,aOD,aOE]
   rfl
theorem CS(f:bp)(rl:List bf)(hlen:rl.length<=8):∃cs,gN f rl=.c7 cs/\cs.length=16/\cs[0]? =some (.c7 (jk f))/\(cs.drop 3)[0]? =some (.int .i64 (N2 rl).cJ)/\(cs.drop 6)[0]? =some (.int .i64 (rl.length:Nat))/\(cs.drop 7).length=9/\cs.drop 7=jN (hW f rl.reverse)/\
 ((cs.drop 7).drop (rl.length*1))[0]? =some (.int .i64 (hP f rl.reverse)):=
 ⟨_,by rw[zw,CR],rfl,rfl,rfl,rfl,rfl,rfl,by
   have ak:hW f rl.reverse rl.length=hP f rl.reverse:=by rw[hW,if_pos (by simp),g_ (by simp)]
   rw[<-ak];exact Xu _ (by omega)⟩
theorem aDl(f:bp)(rl s4:List bf)(ag:rl.length<=8)(aG:s4.length<=8):bT au Iq [gN f rl,gN f s4] Bb:=by
 obtain⟨cs,a4,bW,b8,cN,dl,e2,_,fV⟩:=CS f rl ag;obtain⟨bK,bd,c2,dw,mW,gj,kh,_,eS⟩:=CS f s4 aG;have ma:∀cs,nS (.c7 cs)=some (.c7 cs):=fun _=>rfl;have aw:∀c:List V,(c.drop 2).drop 1=c.drop 3:=fun c=>by rw[List.drop_drop]
 have vK:(cs.drop 2).length=14:=by rw[List.length_drop,bW]
 have t_:(bK.drop 2).length=14:=by rw[List.length_drop,c2]
 rw[a4,bd];refine bP SR (by simp[B0]) ?_;simp-implicitDefEqProofs (disch:=omega) only[go_sem,B0,ma,bW,dl,e2,fV,c2,gj,kh,eS]
 repeat' (first|simp-implicitDefEqProofs (disch:=omega) only[go_sem,ma,bW,b8,cN,dl,vK,aw,c2,mW,gj,t_,jk]|refine a5 (fun h=>?_) (fun h=>?_))
 all_goals exact⟨_,rfl⟩
theorem aOJ(f:bp)(aD:f.cR.length<=40):bT au Is [.c7 (jk f),.c7 (jk f)] Bb:=by
 have ma:∀cs,nS (.c7 cs)=some (.c7 cs):=fun _=>rfl;refine bP SU (by simp[B2]) ?_;simp-implicitDefEqProofs (disch:=omega) only[go_sem,B2];refine aNh fun b=>?_;simp-implicitDefEqProofs (disch:=omega) only[go_sem];refine ck (fun a8=>?_) (fun a8=>?_)
 . simp-implicitDefEqProofs (disch:=omega) only[go_sem]
   exact⟨_,rfl⟩
 simp-implicitDefEqProofs (disch:=omega) only[go_sem,ma,jk];refine ej f.cR (fun i vs N=>vs=[.c7 (jk f),.slice (f.cR.map ds.row) .cx,.int .i64 f.cR.length,.int .i64 i]/\N=[]) ⟨by simp[dr,aX,jk],rfl⟩ ?_ ?_;rotate_left
 . rintro vs N ⟨rfl,rfl⟩
   simp-implicitDefEqProofs (disch:=omega) only[go_sem,db];exact⟨_,rfl⟩
 rintro i p vs N ay hi aw ⟨rfl,rfl⟩;simp-implicitDefEqProofs (disch:=omega) only[go_sem,aw,ay,ma,jk,ds.row];exact dJ hi rfl ⟨rfl,rfl⟩
theorem XH(f:bp)(aD:f.wf)(b7:f.ia)(rl:List bf)(ag:∀x∈rl,x.wf)(hlen:rl.length<=8):
 bT au DR [gN f rl] (fun v=>∃os:List Open,v=.slice (os.map Open.row) .cx/\os.length<=1000):=by
 obtain⟨cs,a4,bW,b8,_,dl,e2,fV,_⟩:=CS f rl hlen;have ma:∀cs,nS (.c7 cs)=some (.c7 cs):=fun _=>rfl;have Nt:=b7.len;have er:∀x∈rl.reverse,x.wf:=fun x ad=>ag x (List.mem_reverse.1 ad);have ql:=fun M dZ=>P2 (M:=M) (v:=gN f rl) (f:=f) (S:=hW f rl.reverse) (by rw[zw];exact pW.c7 _ _) (Ht f rl _) dZ hlen;have rJ:=fun(p:ds)(c:c4)(i:Nat)(ay:0<=p.hv/\p.hv<=1000000)(hi:i<rl.reverse.length)(M:Mem)(dZ:cq M.length M=true)=>
  P3 (M:=M) (v:=gN f rl) f p rl.reverse c i aD b7 ay er hi (by have hm:maxLen=9223372036854775807:=rfl;rw[List.length_reverse];omega) (S:=hW f rl.reverse) (rl:=rl) (by rw[zw];exact pW.c7 _ _) dZ;have DA:∀i,i<rl.length->hW f rl.reverse i=hP f (rl.reverse.take i):=by
  intro i hi;rw[hW,if_pos (by simp;omega)]
 have pp:rl.reverse.length=rl.length:=by simp
 rw[a4] at ql rJ⊢;generalize zS:rl.reverse=l at*;refine bP SQ (by simp[BZ]) ?_;simp-implicitDefEqProofs (disch:=omega) only[go_sem,BZ];refine ew (ql _ rfl) ?_;rintro v N ⟨rfl,rfl⟩;simp-implicitDefEqProofs (disch:=omega) only[go_sem];refine ge l.length (fun i vs N=>∃ver os,vs=[.c7 cs,.aZ 0 ver 0 (os:List Open).length,.slice (l.map bf.row) .cx,.int .i64 l.length,.int .i64 i]/\N=[.arr 5 (os.map Open.row) ver 0]/\os.length<=i*f.cR.length) ⟨0,[],rfl,rfl,by simp⟩ ?_ ?_;rotate_left
 . rintro vs N ⟨ver,os,rfl,rfl,aA⟩
   have aj:l.length*f.cR.length<=8*16:=Nat.mul_le_mul (by omega) Nt;have aV:(os.map Open.row).take os.length=os.map Open.row:=g_ (by simp);simp-implicitDefEqProofs (disch:=omega) only[go_sem,db,aV];exact⟨os,rfl,by omega⟩
 rintro i vs N hi ba ⟨ver,os,rfl,rfl,aA⟩;have l5:=DA i (by omega);have aB:=Xu (hW f l) (i:=i) (by omega);rw[<-fV] at aB;simp-implicitDefEqProofs (disch:=omega) only[go_sem,ba,ma,bW,e2,aB];have aJy:(i+1)*f.cR.length=i*f.cR.length+f.cR.length:=by rw[iv,Nat.one_mul]
 have aj:i*f.cR.length<=8*16:=Nat.mul_le_mul (by omega) Nt;refine a5 (fun az=>?_) (fun az=>?_)
 . simp-implicitDefEqProofs (disch:=omega) only[go_sem]
   exact cS hi ⟨ver,os,rfl,rfl,by omega⟩
 obtain⟨cK,HY⟩:∃cK,∀M,hf 4 (.slice (l.map bf.row) .cx) (some (.int .i64 (i:Int))) none none M=some (.slice ((l.drop i).map bf.row) cK):=⟨_,fun M=>by
  rw[Xe 4 _ _ _ _ _ (by omega) (by rw[eu];omega) (vk (f:=bf.row) (fun _=>rfl) _),<-List.map_drop];rfl⟩;simp-implicitDefEqProofs (disch:=omega) only[go_sem,HY];have g2:(l.drop i).length=l.length -i:=List.length_drop;refine ej (l.drop i) (fun j vs N=>∃z m:Nat,vs=[.c7 cs,.aZ 0 ver 0 os.length,.slice (l.map bf.row) .cx,.int .i64 i,.int .u64 z,.int .u64 m,.int .i64 l.length,.int .i64 i,.slice ((l.drop i).map bf.row) cK,.int .i64 (l.drop i).length,.int .i64 j]/\N=[.arr 5 (os.map Open.row) ver 0]/\z<18446744073709551616/\m<18446744073709551616) ⟨0,0,rfl,rfl,by omega,by omega⟩ ?_ ?_
 . rintro j r vs N an ap lJ ⟨z,m,rfl,rfl,h7,hj⟩
   simp-implicitDefEqProofs (disch:=omega) only[go_sem,lJ,an,bf.row,Bm,Ev _ _ h7 (re _),Ev _ _ hj (re _)];exact dJ ap rfl ⟨_,_,rfl,rfl,Ew _ _ h7 (re _),Ew _ _ hj (re _)⟩
 rintro vs N ⟨z,m,rfl,rfl,h7,hj⟩;simp-implicitDefEqProofs (disch:=omega) only[go_sem,db,ma,bW,b8,jk];refine ej f.cR (fun k vs N=>∃ver os,vs=[.c7 cs,.aZ 0 ver 0 (os:List Open).length,.slice (l.map bf.row) .cx,.int .i64 i,.int .u64 z,.int .u64 m,.int .i64 l.length,.int .i64 i,.slice (f.cR.map ds.row) .cx,.int .i64 f.cR.length,.int .i64 k]/\N=[.arr 5 (os.map Open.row) ver 0]/\os.length<=i*f.cR.length+k) ⟨ver,os,rfl,rfl,by omega⟩ ?_ ?_;rotate_left
 . rintro vs N ⟨ver,os,rfl,rfl,aA⟩
   simp-implicitDefEqProofs (disch:=omega) only[go_sem,db];exact cS hi ⟨ver,os,rfl,rfl,by omega⟩
 rintro k p vs N ay ao fi ⟨ver,os,rfl,rfl,aA⟩;obtain⟨r,an⟩:∃r,l[i]? =some r:=⟨l[i],by simp⟩;obtain⟨l2,mC⟩:=Zs z;have sR:=(b7.AH p (dQ ay)).1;simp-implicitDefEqProofs (disch:=omega) only[go_sem,fi,ay,ds.row];refine a5 (fun bh=>?_) (fun bh=>?_);rotate_left
 . simp-implicitDefEqProofs (disch:=omega) only[go_sem]
   exact dJ ao rfl ⟨ver,os,rfl,rfl,by omega⟩
 simp-implicitDefEqProofs (disch:=omega) only[go_sem];first|refine b1 (mC) ?_|refine bV (mC) ?_
 simp-implicitDefEqProofs (disch:=omega) only[go_sem];refine a5 (fun bC=>?_) (fun bC=>?_);rotate_left
 . simp-implicitDefEqProofs (disch:=omega) only[go_sem]
   exact dJ ao rfl ⟨ver,os,rfl,rfl,by omega⟩
 simp-implicitDefEqProofs (disch:=omega) only[go_sem,Bm];refine a5 (fun ca=>?_) (fun ca=>?_);rotate_left
 . simp-implicitDefEqProofs (disch:=omega) only[go_sem]
   exact dJ ao rfl ⟨ver,os,rfl,rfl,by omega⟩
 simp-implicitDefEqProofs (disch:=omega) only[go_sem,an,bf.row,ma,bW,e2,aB];have qp:=rJ p .cx i sR hi [.arr 5 (os.map Open.row) ver 0,.box p.row] rfl;simp only[ds.row] at qp;refine aCS qp ?_;have i4:∀(a b c d:Int)(B:a1),dX false 5 40 (.aZ 0 ver 0 os.length) (.slice [[.int .i64 a,.int .i64 b,.int .i64 c,.int .i64 d,.int .u64 z]] .full) [.arr 5 (os.map Open.row) ver 0,B]=some (.aZ 0 (ver+1) 0 (os.length+1),[.arr 5 ((os++[(⟨a,b,c,d,z⟩:Open)]).map Open.row) (ver+1) 0,B]):=fun a b c d B=>by
  rw[List.map_append];exact sp (r:=Open.row ⟨a,b,c,d,z⟩) rfl (by simp) rfl (by omega)
 simp-implicitDefEqProofs (disch:=omega) only[go_sem,i4];exact dJ ao rfl ⟨ver+1,os++[_],by simp only[dr,aX,dz];rfl,rfl,by simp;omega⟩
theorem YX(f:bp)(aD:f.wf)(b7:f.ia)(rl s4:List bf)(ag:∀x∈rl,x.wf)(hlen:rl.length<=8)(aG:∀x∈s4,x.wf)(Ny:s4.length<=8):
 bT au Io [gN f rl,gN f s4] Bb:=by
 have aa:=aOJ f (by have:=b7.len;omega);have af:=aDl f rl s4 hlen Ny;have az:=XH f aD b7 rl ag hlen;have bh:=XH f aD b7 s4 aG Ny;obtain⟨cs,a4,bW,b8,_⟩:=CS f rl hlen;obtain⟨bK,bd,c2,dw,_⟩:=CS f s4 Ny;have ma:∀cs,nS (.c7 cs)=some (.c7 cs):=fun _=>rfl;have C_:∀cs,dN .eql .ptr (.c7 cs) .dE=some (.bool false):=fun _=>rfl;rw[a4,bd] at af⊢;rw[a4] at az;rw[bd] at bh;refine bP SM (by simp[BV]) ?_;simp-implicitDefEqProofs (disch:=omega) only[go_sem,BV,ma,C_,bW,b8,c2,dw];refine fw aa ?_;rintro v ⟨b,rfl⟩;simp-implicitDefEqProofs (disch:=omega) only[go_sem];refine ck (fun h=>?_) (fun h=>?_);rotate_left
 . simp-implicitDefEqProofs (disch:=omega) only[go_sem]
   exact⟨_,rfl⟩
 simp-implicitDefEqProofs (disch:=omega) only[go_sem];refine fw af ?_;rintro v ⟨dw,rfl⟩;simp-implicitDefEqProofs (disch:=omega) only[go_sem];refine ck (fun h=>?_) (fun h=>?_);rotate_left
 . simp-implicitDefEqProofs (disch:=omega) only[go_sem]
   exact⟨_,rfl⟩
 simp-implicitDefEqProofs (disch:=omega) only[go_sem];refine fw az ?_;rintro v ⟨A,rfl,el⟩;simp-implicitDefEqProofs (disch:=omega) only[go_sem];refine fw bh ?_;rintro v ⟨B,rfl,bU⟩;simp-implicitDefEqProofs (disch:=omega) only[go_sem];refine ej B (fun i vs N=>vs=[.slice (A.map Open.row) .cx,.slice (B.map Open.row) .cx,.int .i64 B.length,.int .i64 i]/\N=[]) ⟨rfl,rfl⟩ ?_ ?_;rotate_left
 . rintro vs N ⟨rfl,rfl⟩
   simp-implicitDefEqProofs (disch:=omega) only[go_sem,db];exact⟨_,rfl⟩
 rintro i o vs N aA hi ba ⟨rfl,rfl⟩;simp-implicitDefEqProofs (disch:=omega) only[go_sem,ba,aA,Open.row];refine ej A (fun j vs N=>∃b:Bool,vs=[.slice (A.map Open.row) .cx,.ptr 0 0,.bool b,.slice (B.map Open.row) .cx,.int .i64 B.length,.int .i64 i,.slice (A.map Open.row) .cx,.int .i64 A.length,.int .i64 j]/\N=[.box o.row]) ⟨false,rfl,rfl⟩ ?_ ?_
 . rintro j a vs N a9 ap lJ ⟨b,rfl,rfl⟩
   have an:=aOa a o;simp only[Open.row] at an;simp-implicitDefEqProofs (disch:=omega) only[go_sem,lJ,a9,Open.row];refine ck (fun az=>?_) (fun az=>?_)
   . simp-implicitDefEqProofs (disch:=omega) only[go_sem]
     exact dJ ap rfl ⟨_,rfl,rfl⟩
   simp-implicitDefEqProofs (disch:=omega) only[go_sem];refine fw an ?_;rintro v ⟨mW,rfl⟩;simp-implicitDefEqProofs (disch:=omega) only[go_sem];exact dJ ap rfl ⟨_,rfl,rfl⟩
 rintro vs N ⟨b,rfl,rfl⟩;simp-implicitDefEqProofs (disch:=omega) only[go_sem,db];refine ck (fun az=>?_) (fun az=>?_)
 . simp-implicitDefEqProofs (disch:=omega) only[go_sem]
   exact dJ hi rfl ⟨rfl,rfl⟩
 . simp-implicitDefEqProofs (disch:=omega) only[go_sem]
   exact⟨_,rfl⟩
end Go.aL.C
namespace Go.aL.C
open Go.aL
structure bO where
 a:Int
 b:Int
 c:Int
 d:Int
 deriving DecidableEq
def bO.row(v:bO):List V:=[.int .i64 v.a,.int .i64 v.b,.int .i64 v.c,.int .i64 v.d]
def bO.at(v:bO):Nat->Int
 |0=>v.a
 |1=>v.b
 |2=>v.c
 |_=>v.d
def qC(a b:bO):Bool:=decide (a.a<=b.a)&&(decide (a.b<=b.b)&&(decide (a.c<=b.c)&&decide (a.d<=b.d)))
theorem JP(a b:bO):qC a b=true↔∀k,k<4->a.at k<=b.at k:=by
 simp only[qC,cc,decide_eq_true_eq];constructor
 . rintro⟨a8,aa,af,az⟩ k ao
   have:k=0∨k=1∨k=2∨k=3:=by omega
   rcases this with rfl|rfl|rfl|rfl<;>assumption
 . intro h
   exact⟨h 0 (by omega),h 1 (by omega),h 2 (by omega),h 3 (by omega)⟩
theorem bO.AN(v:bO){i:Nat}(h:i<4):v.row[i*1]? =some (.int .i64 (v.at i)):=by
 have:i=0∨i=1∨i=2∨i=3:=by omega
 rcases this with rfl|rfl|rfl|rfl<;>rfl
theorem JK(id i:Nat)(hi:i<4):pC 4 1 (.ptr id 0) (.int .i64 (i:Int))=some (.ptr id (i*1)):=by
 simp only[pC,decide_eq_true (show 0<=(i:Int) by omega),decide_eq_true (show(i:Int)<((4:Nat):Int) by omega),eQ,cond_true,kU,kL,ee]
theorem ab8(a b:bO):bT au I4 [.agg a.row,.agg b.row] (fun v=>v=.bool (qC a b)):=by
 refine bP Ti (by simp[Cu]) ?_;simp-implicitDefEqProofs (disch:=omega) only[go_sem,Cu,bO.row];refine ge 4 (fun i vs M=>(∀k,k<i->a.at k<=b.at k)/\vs=[.ptr 0 0,.ptr 1 0,.int .i64 i]/\M=[.box a.row,.box b.row]) ⟨fun k ao=>absurd ao (e8 k),rfl,rfl⟩ ?_ ?_;rotate_left
 . rintro vs M ⟨h,rfl,rfl⟩
   have aw:decide (((4:Nat):Int)<4)=false:=rfl;simp-implicitDefEqProofs (disch:=omega) only[go_sem,aw];exact((JP a b).2 h).symm
 rintro i vs M hi ba ⟨h,rfl,rfl⟩;have kl:=a.AN hi;have zy:=b.AN hi;have ba:decide ((i:Int)<4)=true:=ba;simp-implicitDefEqProofs (disch:=omega) only[go_sem,ba,JK _ _ hi,kl,zy];refine a5 (fun af=>?_) (fun af=>?_)
 . simp-implicitDefEqProofs (disch:=omega) only[go_sem]
   symm;rw[Bool.eq_false_iff];intro az;have:=(JP a b).1 az i hi;omega
 . simp-implicitDefEqProofs (disch:=omega) only[go_sem]
   refine cS hi ⟨fun k ao=>?_,rfl,rfl⟩;by_cases l9:k=i
   . subst l9;omega
   . exact h k (by omega)
def Au(a b:bO):Bool:=decide (a≠b)&&qC a b
theorem Pk(a b:bO):(decide (a.a=b.a)&&(decide (a.b=b.b)&&(decide (a.c=b.c)&&decide (a.d=b.d))))=decide (a=b):=by
 cases a;cases b;simp only[bO.mk.injEq];rw[Bool.eq_iff_iff];simp
theorem aNd(a b:bO):bT au I2 [.agg a.row,.agg b.row] (fun v=>v=.bool (Au a b)):=by
 have aj:=ab8 a b;simp only[bO.row] at aj;refine bP Tg (by simp[Cs]) ?_;simp-implicitDefEqProofs (disch:=omega) only[go_sem,Cs,bO.row,Pk];refine a5 (fun h=>?_) (fun h=>?_)
 . simp-implicitDefEqProofs (disch:=omega) only[go_sem]
   simp[Au,h]
 . simp-implicitDefEqProofs (disch:=omega) only[go_sem]
   first|refine b1 (aj) ?_|refine bV (aj) ?_
   simp-implicitDefEqProofs (disch:=omega) only[go_sem];simp[Au,h]
def rj(a b:bO):Int:=if a.at 0≠b.at 0 then(if a.at 0<b.at 0 then-1 else 1) else if a.at 1≠b.at 1 then(if a.at 1<b.at 1 then-1 else 1) else if a.at 2≠b.at 2 then(if a.at 2<b.at 2 then-1 else 1) else if a.at 3≠b.at 3 then(if a.at 3<b.at 3 then-1 else 1) else 0
theorem Rx{a b:bO}{i:Nat}(hi:i<4)(h:∀k,k<i->a.at k=b.at k)(cD:a.at i≠b.at i):rj a b=if a.at i<b.at i then-1 else 1:=by
 have:i=0∨i=1∨i=2∨i=3:=by omega
 unfold rj;rcases this with rfl|rfl|rfl|rfl
 . rw[if_pos cD]
 . rw[if_neg (fun e=>e (h 0 (by omega))),if_pos cD]
 . rw[if_neg (fun e=>e (h 0 (by omega))),if_neg (fun e=>e (h 1 (by omega))),if_pos cD]
 . rw[if_neg (fun e=>e (h 0 (by omega))),if_neg (fun e=>e (h 1 (by omega))),if_neg (fun e=>e (h 2 (by omega))),if_pos cD]
theorem aQf{a b:bO}(h:∀k,k<4->a.at k=b.at k):a=b:=by
 cases a;cases b;have a8:=h 0 (by omega);have aa:=h 1 (by omega);have af:=h 2 (by omega);have az:=h 3 (by omega);simp only[bO.at] at a8 aa af az;subst a8 aa af az;rfl
theorem YR(a b:bO):bT au I0 [.agg a.row,.agg b.row] (fun v=>v=.int .i64 (rj a b)):=by
 refine bP Te (by simp[Cq]) ?_;simp-implicitDefEqProofs (disch:=omega) only[go_sem,Cq,bO.row,Pk];refine a5 (fun h=>?_) (fun h=>?_)
 . simp-implicitDefEqProofs (disch:=omega) only[go_sem]
   subst h;simp[rj]
 simp-implicitDefEqProofs (disch:=omega) only[go_sem];refine ge 4 (fun i vs M=>(∀k,k<i->a.at k=b.at k)/\vs=[.ptr 0 0,.ptr 1 0,.int .i64 i]/\M=[.box a.row,.box b.row]) ⟨fun k ao=>absurd ao (e8 k),rfl,rfl⟩ ?_ ?_;rotate_left
 . rintro vs M ⟨af,rfl,rfl⟩
   exact absurd (aQf af) h
 rintro i vs M hi ba ⟨h,rfl,rfl⟩;have kl:=a.AN hi;have zy:=b.AN hi;have ba:decide ((i:Int)<4)=true:=ba;simp-implicitDefEqProofs (disch:=omega) only[go_sem,ba,JK _ _ hi,kl,zy];refine a5 (fun af=>?_) (fun af=>?_)
 . simp-implicitDefEqProofs (disch:=omega) only[go_sem]
   rw[Rx hi h (by omega),if_pos af]
 simp-implicitDefEqProofs (disch:=omega) only[go_sem,JK _ _ hi,kl,zy];refine a5 (fun az=>?_) (fun az=>?_)
 . simp-implicitDefEqProofs (disch:=omega) only[go_sem]
   rw[Rx hi h (by omega),if_neg af]
 . simp-implicitDefEqProofs (disch:=omega) only[go_sem]
   refine cS hi ⟨fun k ao=>?_,rfl,rfl⟩;by_cases l9:k=i
   . subst l9;omega
   . exact h k (by omega)
theorem Wn(l:List bO)(c:c4)(v:bO)(ag:l.length<=1000000000000):bT au I1 [.slice (l.map bO.row) c,.agg v.row] (fun x=>x=.bool (l.any fun w=>qC w v)):=by
 refine bP Tf (by simp[Cr]) ?_;simp-implicitDefEqProofs (disch:=omega) only[go_sem,Cr,bO.row];refine⟨fun _ _ _=>False,?_,fun _ _ _ h=>h.elim⟩;simp-implicitDefEqProofs (disch:=omega) only[go_sem];refine ej l (fun i vs M=>((l.take i).any fun w=>qC w v)=false/\vs=[.ptr 0 0,.bool false,.slice (l.map bO.row) c,.int .i64 l.length,.int .i64 i]/\M=[.box v.row]) ⟨rfl,rfl,rfl⟩ ?_ ?_;rotate_left
 . rintro vs M ⟨h,rfl,rfl⟩
   rw[gB] at h;simp-implicitDefEqProofs (disch:=omega) only[go_sem,db];exact h.symm
 rintro i w vs M hw hi ba ⟨h,rfl,rfl⟩;have lK:((l.take (i+1)).any fun w=>qC w v)=qC w v:=by rw[iu,hw,List.any_append,h];simp
 have eg:qC w v=true->(l.any fun w=>qC w v)=true:=fun h=>List.any_eq_true.2 ⟨w,dQ hw,h⟩;simp-implicitDefEqProofs (disch:=omega) only[go_sem,ba,hw,bO.row];refine ge 4 (fun k vs M=>(∀j,j<k->w.at j<=v.at j)/\vs=[.ptr 0 0,.bool false,.ptr 1 0,.slice (l.map bO.row) c,.int .i64 l.length,.int .i64 i,.int .i64 k]/\M=[.box v.row,.box w.row]) ⟨fun k ao=>absurd ao (e8 k),rfl,rfl⟩ ?_ ?_;rotate_left
 . rintro vs M ⟨h,rfl,rfl⟩
   have aw:decide (((4:Nat):Int)<4)=false:=rfl;simp-implicitDefEqProofs (disch:=omega) only[go_sem,aw];exact(eg ((JP w v).2 h)).symm
 rintro k vs M ao fi ⟨bh,rfl,rfl⟩;have kl:=w.AN ao;have zy:=v.AN ao;have fi:decide ((k:Int)<4)=true:=fi;simp-implicitDefEqProofs (disch:=omega) only[go_sem,fi,JK _ _ ao,kl,zy];refine a5 (fun af=>?_) (fun af=>?_)
 . have aD:qC w v=false:=by
    rw[Bool.eq_false_iff];intro az;have:=(JP w v).1 az k ao;omega
   simp-implicitDefEqProofs (disch:=omega) only[go_sem];exact dJ hi rfl ⟨by rw[lK,aD],rfl,rfl⟩
 . simp-implicitDefEqProofs (disch:=omega) only[go_sem]
   refine cS ao ⟨fun j ap=>?_,rfl,rfl⟩;by_cases l9:j=k
   . subst l9;omega
   . exact bh j (by omega)
end Go.aL.C
namespace Go.aL.C
open Go.aL
theorem aK3{w w':World}{Γ Γ':Env}{v:V}{bn:Value}(ak:v.JM=true)(h:bq w Γ v bn):bq w' Γ' v bn:=by
 cases h<;>simp[V.JM] at ak
 . exact .bool _
 . exact .int _ _
 . exact .str _
 . exact .dE
 . exact .gz
 . exact .jJ
theorem aCQ{f:Nat}{args u0:List V}{R:V->Prop}{M:Mem}{K:V->Mem->Prop}(h:bT au f u0 R)(aD:jI (eY M 0 20) args=some u0)(hu:cT 0 u0=true)(ak:∀v,R v->v.JM=true)(ao:∀v,R v->K v M):b9 au f args M K:=by
 refine⟨h.1,fun w Γ jT aB a9=>?_⟩;obtain⟨ag,gx⟩:=Em aD;let oR:Env:=⟨w.heap.size,[],(Γ.jl w 0).S⟩
 have aIm:Good w oR []:=⟨rfl,fun i l B ag=>by simp[oR] at ag,fun i l ag=>by simp[oR] at ag,fun i j l l' ag=>by simp[oR] at ag,fun b o ak=>by
  rcases ak with ak|⟨_,_,_,_,_,_,aq⟩
  . exact aB.jL b o ak
  . exact aq,cH _,fun w' aj=>aB.jO w' (aj.mono aB.base)⟩;have zD:ek w oR u0 jT:=⟨by rw[a9.1,ag],fun j y aE=>by
  obtain⟨x,ad,kq⟩:=gx j y aE;exact bq.move (n:=0) (w:=w) (Γ:=Γ.jl w 0) (Γ':=oR) (w':=w) (fun b o ak=>⟨ak,rfl⟩) (fun i hi=>absurd hi (e8 i)) (TJ aB 20 (a9.2 j x ad) kq) (wr hu j y aE)⟩;refine(h.2 w oR jT aIm zD).mono ?_;rintro e w' ⟨v,bn,Γ0,ah,he,⟨fI,a7,_⟩,f0,M8,tR⟩;subst a7;have sG:Go.RowKit.Below w.heap.size w w':=tR.below;let Γ':Env:=⟨Γ.h8,Γ.c0,fun b q=>Γ0.S b q/\(b<w.heap.size->Γ.S b q)⟩
 have i2:Ext w Γ w' Γ':=⟨fun b q ak=>⟨⟨(tR.s b q (Or.inl ak)).1,fun _=>ak⟩,(tR.s b q (Or.inl ak)).2⟩,fun i l ag=>⟨l,ag,cH _,fun _=>rfl,fun _=>rfl⟩,rfl,sG.mono aB.base,fun b q aj ak=>ak.2 (Nat.lt_of_lt_of_le aj aB.base)⟩;refine⟨v,bn,Γ',M,he,ao v fI,aK3 (ak v fI) f0,?_,i2⟩;exact⟨aB.len,fun i l B ag bU=>(aB.eL i l B ag bU).fN i2 (fun aq=>sG.block _ (aB.m7 ag aq)) (fun aq q ak=>ak.2 (aB.m7 ag aq)),aB.cz,aB.inj,fun b q ak=>M8.jL b q ak.1,kb aB.base sG.size,aB.yH i2⟩
theorem aCR{f:Nat}{args u0:List V}{v:V}{M:Mem}{K:V->Mem->Prop}(h:bT au f u0 (fun x=>x=v))(aD:jI (eY M 0 20) args=some u0)(hu:cT 0 u0=true)(ak:v.JM=true)(ao:K v M):@qX au f args M ⟨K⟩:=
 aCQ h aD hu (fun x ad=>by rw[ad];exact ak) fun x ad=>by rw[ad];exact ao
def lN(v:bO)(l:List bO):List bO:=l.filter fun w=>!Au v w
def rX(v:bO)(l:List bO):List bO:=l.takeWhile fun w=>decide (rj w v<0)
def sb(v:bO)(l:List bO):List bO:=l.dropWhile fun w=>decide (rj w v<0)
def rY(l:List bO)(v:bO):List bO:=if(l.any fun w=>qC w v)=true then l else rX v (lN v l)++v::sb v (lN v l)
def mZ(l:List bO):List bO:=l.foldl rY []
def uQ(M:Mem)(x:V)(l:List bO):Prop:=(x=.slice [] .nil/\l=[])∨∃b ver,x=.aZ b ver 0 l.length/\M[b]? =some (.arr 4 (l.map bO.row) ver 0)/\0<l.length
theorem PJ{M:Mem}{x:V}{l:List bO}(h:uQ M x l)(v:bO):∃c,jI (eY M 0 20) [x,.agg v.row]=some [.slice (l.map bO.row) c,.agg v.row]:=by
 rcases h with⟨rfl,rfl⟩|⟨b,ver,rfl,a7,_⟩
 . exact⟨.nil,rfl⟩
 . refine⟨.cx,?_⟩
   have aa:eY M 0 20 (.aZ b ver 0 l.length)=some (.slice (l.map bO.row) .cx):=by
    have aw:decide (0+l.length<=(l.map bO.row).length)=true:=decide_eq_true (by simp);simp only[eY,a7,decide_eq_false (e8 b),cond_false,beq_self_eq_true,aw,eQ,cond_true,lW,g_ (Nat.le_of_eq (eu bO.row):(l.map bO.row).length<=l.length)]
   simp only[jI,aa];rfl
theorem VJ(zero:List V)(sz bytes n:Nat)(M:Mem)(aK:n<=1000000000000)(aj:bytes<=100):m8 zero sz bytes (.int .i64 (n:Int)) (.int .i64 (n:Int)) M=some (.aZ M.length 0 0 n,M++[.arr sz (f_ n zero) 0 0]):=by
 have aa:(n:Int)*(bytes:Int)<=1000000000000*100:=Int.mul_le_mul (by omega) (by omega) (by omega) (by omega);have bW:decide (0<=(n:Int))=true:=decide_eq_true (by omega);have b8:decide ((n:Int)<=(n:Int))=true:=decide_eq_true (by omega);have cN:decide ((n:Int)*(bytes:Int)<=2^48)=true:=decide_eq_true (by omega);have dl:decide ((n:Int)<2^62)=true:=decide_eq_true (by omega);simp only[m8,bW,b8,cN,dl,kU,eQ,cond_true]
theorem Wj:∀(a b c:List (List V)),b.length=c.length->oF (a++b) a.length c=a++c
 |a,[],[],_=>by simp[oF]
 |a,x::b,y::c,h=>by
  have e:(a++x::b).set a.length y=(a++[y])++b:=by rw[List.set_append,if_neg (by omega),mS];simp
  rw[oF,e,show a.length+1=(a++[y]).length by simp,Wj (a++[y]) b c (by simpa using h)];simp
theorem KY{M:Mem}{x:V}{l:List bO}(h:uQ M x l)(L:Mem):uQ (M++L) x l:=by
 rcases h with h|⟨b,ver,aa,af,az⟩
 . exact .inl h
 . exact .inr ⟨b,ver,aa,bY af L,az⟩
theorem OB(v:bO)(l:List bO):(lN v l).length<=l.length:=List.length_filter_le _ _
theorem Ox(v:bO)(l:List bO):rX v l++sb v l=l:=List.takeWhile_append_dropWhile
theorem aND{M:Mem}{b ver:Nat}{R:List (List V)}{k:List bO}{v:bO}{tg:Nat}(aj:M[b]? =some (.arr 4 R ver 0))(aq:M[tg]? =some (.box v.row))(ao:k.length<=1000000000000)(ay:0<R.length)(fI:R.take k.length=k.map bO.row)(gO:k.length<=R.length)(s:aI)
 (a8:aX s 0=.aZ b ver 0 R.length)(az:aX s 3=.ptr tg 0)(bC:aX s 5=.int .i64 k.length)(cp:aX s 8=.int .i64 (rX v k).length):
 dn au Q0 (o8 tD.results (qz fun r ah=>uQ ah r (rX v k++v::sb v k))) s M:=by
 have fj:=Ox v k;have mb:(rX v k).length+(sb v k).length=k.length:=by rw[<-dz,fj]
 generalize rX v k=T at*;generalize sb v k=S at*;have aHv:R.take T.length=T.map bO.row:=by
  rw[show R.take T.length=(R.take k.length).take T.length by rw[List.take_take,Nat.min_eq_left (by omega)],fI,<-fj];simp
 have aHu:(R.drop T.length).take S.length=S.map bO.row:=by
  rw[show(R.drop T.length).take S.length=(R.take k.length).drop T.length by rw[List.drop_take,show k.length -T.length=S.length by omega],fI,<-fj];simp
 have aHV:(k.length:Int) -(T.length:Int)=(S.length:Nat):=by omega
 have mB:b<M.length:=(bo.1 aj).1;have kp:tg<M.length:=(bo.1 aq).1;have pr:=fun zero=>VJ zero 4 32 S.length M (by omega) (by omega);have vf:=fun L=>bY aj L;have eA:∀L,hf 4 (.aZ b ver 0 R.length) (some (.int .i64 (T.length:Nat))) (some (.int .i64 (k.length:Nat))) none (M++L)=some (.aZ b ver T.length S.length):=fun L=>by
  have bW:decide (0<=(T.length:Int))=true:=decide_eq_true (by omega);have b8:decide (0<=(k.length:Int))=true:=decide_eq_true (by omega);have cN:decide (T.length<=k.length)=true:=decide_eq_true (by omega);have dl:decide (k.length<=R.length)=true:=decide_eq_true gO;simp only[hf,vf,iG,bW,b8,cN,dl,cond_true,kU,beq_self_eq_true,ee,cH,decide_true,eQ];rw[show k.length -T.length=S.length by omega]
 have i5:u4 4 (.aZ M.length 0 0 S.length) (.aZ b ver T.length S.length) (M++[.arr 4 (f_ S.length [V.int .i64 0,.int .i64 0,.int .i64 0,.int .i64 0]) 0 0])=some (.int .i64 (min S.length (S.map bO.row).length:Nat),M++[.arr 4 (S.map bO.row) 0 0]):=by
  have bW:decide (T.length+S.length<=R.length)=true:=decide_eq_true (by omega);have aA:=Wj [] (f_ S.length [V.int .i64 0,.int .i64 0,.int .i64 0,.int .i64 0]) (S.map bO.row) (by simp);simp only[List.nil_append,gY] at aA;simp only[u4,eK,vf,beq_self_eq_true,bW,eQ,cond_true,aHu,List.getElem?_concat_length,ee,List.length_replicate,cH,decide_true,KD,aA];simp
 have m1:yz 4 (.aZ b ver 0 R.length) (.int .i64 (T.length:Nat)) (.int .i64 (T.length:Nat)) (M++[.arr 4 (S.map bO.row) 0 0])=some (.slice (T.map bO.row) .full,M.set b (.arr 4 R ver (max 0 T.length))++[.arr 4 (S.map bO.row) 0 0]):=by
  have bW:decide (0<=(T.length:Int))=true:=decide_eq_true (by omega);have b8:decide (T.length<=R.length)=true:=decide_eq_true (by omega);have cN:decide (0<R.length)=true:=decide_eq_true ay;simp only[yz,vf,beq_self_eq_true,cH,decide_true,bW,b8,cN,eQ,cond_true,kU,aHv,nV mB]
 have MP:b≠tg:=fun h=>by rw[h,aq] at aj;cases aj
 have xQ:∀X L,(M.set b X++L)[tg]? =some (.box v.row):=fun X L=>bY (by rw[dv MP];exact aq) L;have U9:∀L,(M++L)[tg]? =some (.box v.row):=fun L=>bY aq L;have xp:dX false 4 32 (.slice (T.map bO.row) .full) (.slice [v.row] .full) (M.set b (.arr 4 R ver (max 0 T.length))++[.arr 4 (S.map bO.row) 0 0])=some (.aZ (M.length+1) 0 0 (T.length+1),M.set b (.arr 4 R ver (max 0 T.length))++[.arr 4 (S.map bO.row) 0 0,.arr 4 (T.map bO.row++[v.row]) 0 0]):=by
  have cn:fr 4 (T.map bO.row)=true:=vk (f:=bO.row) (fun _=>rfl) T;have aw:decide ((T.length+1)*(2*32)<=2^48)=true:=decide_eq_true (by omega);have k_:decide (c4.full=c4.nil)=false:=rfl;simp only[dX,eK,Ui,cn,bO.row,dC,gY,ee,beq_self_eq_true,cond_true,g0,k_,decide_true,Bool.or_true,eu,aw,eQ,dz,eR,en,List.cons_append,List.nil_append]
 have ve:dX false 4 32 (.aZ (M.length+1) 0 0 (T.length+1)) (.aZ M.length 0 0 S.length) (M.set b (.arr 4 R ver (max 0 T.length))++[.arr 4 (S.map bO.row) 0 0,.arr 4 (T.map bO.row++[v.row]) 0 0])=some (.aZ (M.length+1) 1 0 (T.length+1+S.length),M.set b (.arr 4 R ver (max 0 T.length))++[.arr 4 (S.map bO.row) 0 0,.arr 4 (T.map bO.row++[v.row]++S.map bO.row) 1 0]):=by
  have aw:decide ((T.length+1+S.length)*(2*32)<=2^48)=true:=decide_eq_true (by omega);have hlen:(M.set b (.arr 4 R ver (max 0 T.length))).length=M.length:=eR;generalize M.set b (.arr 4 R ver (max 0 T.length))=K at hlen⊢;rw[<-hlen];have fY:(K++[a1.arr 4 (S.map bO.row) 0 0,a1.arr 4 (T.map bO.row++[v.row]) 0 0])[K.length]? =some (a1.arr 4 (S.map bO.row) 0 0):=eT K _;have a4:(K++[a1.arr 4 (S.map bO.row) 0 0,a1.arr 4 (T.map bO.row++[v.row]) 0 0])[K.length+1]? =some (a1.arr 4 (T.map bO.row++[v.row]) 0 0):=i1 K _ 1;have bd:∀X,(K++[a1.arr 4 (S.map bO.row) 0 0,a1.arr 4 (T.map bO.row++[v.row]) 0 0]).set (K.length+1) X=K++[a1.arr 4 (S.map bO.row) 0 0,X]:=fun X=>lj K _ 1 X;simp only[dX,eK,fY,beq_self_eq_true,ee,eu,cH,decide_true,eQ,cond_true,lW,KD,g0,a4,dz,dC,gY,aw,bd]
 simp only[bO.row] at U9 xQ xp ve;simp-implicitDefEqProofs (disch:=omega) only[go_sem,tD,↓bm 44,↓bm 46,↓bm 48,↓bm 49,↓bm 50,↓bm 51,a8,az,bC,cp,aHV,pr,eA,i5,m1,U9,xQ,xp,ve];refine .inr ⟨M.length+1,1,?_,?_,by simp;omega⟩
 . rw[dz,dC,show T.length+1+S.length=T.length+(S.length+1) by omega]
 . have hlen:(M.set b (.arr 4 R ver (max 0 T.length))).length=M.length:=eR
   rw[<-hlen,i1];simp[bO.row]
theorem aNE{M:Mem}{b ver:Nat}{R:List (List V)}{k:List bO}{v:bO}{tg:Nat}(aj:M[b]? =some (.arr 4 R ver 0))(aq:M[tg]? =some (.box v.row))(ao:k.length<=1000000000000)(ay:0<R.length)(fI:R.take k.length=k.map bO.row)(gO:k.length<=R.length)(s:aI)
 (a8:aX s 0=.aZ b ver 0 R.length)(az:aX s 3=.ptr tg 0)(bC:aX s 5=.int .i64 k.length):
 dn au Q1 (o8 tD.results (qz fun r ah=>uQ ah r (rX v k++v::sb v k))) s M:=by
 have hq:=aND aj aq ao ay fI gO;have fj:=Ox v k;have mb:(rX v k).length+(sb v k).length=k.length:=by rw[<-dz,fj]
 have aJN:∀w∈rX v k,rj w v<0:=fun w hw=>of_decide_eq_true (List.all_eq_true.1 (List.all_takeWhile (p:=fun w=>decide (rj w v<0)) (l:=k)) w hw);have aKj:∀w,(sb v k)[0]? =some w->¬rj w v<0:=fun w hw=>by
  have:=List.head?_dropWhile_not (fun w=>decide (rj w v<0)) k;rw[List.head?_eq_getElem?,show k.dropWhile (fun w=>decide (rj w v<0))=sb v k from rfl,hw] at this;simpa using this
 have iy:∀(i:Nat)(w:bO),k[i]? =some w->R[i]? =some w.row:=fun i w hw=>by
  have hi:=(bo.1 hw).1;rw[<-hA hi,fI,gX,hw];rfl
 have vr:∀i:Nat,i<R.length->iz 4 (.aZ b ver 0 R.length) (.int .i64 (i:Int)) M=some (.fq b ver i 0):=fun i hi=>by
  simp only[iz,decide_eq_true (show 0<=(i:Int) by omega),cond_true,aj,beq_self_eq_true,kU,decide_eq_true hi,ee,cH,decide_true,eQ]
 have tY:∀(i:Nat)(w:bO),k[i]? =some w->g4 4 true (.fq b ver i 0) M=some (.agg w.row):=fun i w hw=>by
  simp only[g4,aj,beq_self_eq_true,cond_true,iy i w hw];rfl
 have C5:=fun w=>YR w v;generalize rX v k=T at*;generalize sb v k=S at*;simp only[bO.row] at tY aq C5;simp-implicitDefEqProofs (disch:=omega) only[go_sem,tD,↓bm 53,a8,az,bC];refine ge T.length (fun i vs N=>vs=[.aZ b ver 0 R.length,.ptr tg 0,.int .i64 k.length,.int .i64 i]/\N=M) ⟨rfl,rfl⟩ ?_ ?_;rotate_left
 . rintro vs N ⟨rfl,rfl⟩
   simp-implicitDefEqProofs (disch:=omega) only[go_sem];refine a5 (fun g=>?_) (fun g=>?_)
   . obtain⟨w,hw⟩:∃w,k[T.length]? =some w:=⟨k[T.length]'(by omega),by simp⟩
     have aKr:S[0]? =some w:=by rw[<-fj,j_ (cH _),mS] at hw;exact hw
     simp-implicitDefEqProofs (disch:=omega) only[go_sem,vr T.length (by omega),tY _ w hw,aq];first|refine b1 (C5 w) ?_|refine bV (C5 w) ?_
     simp-implicitDefEqProofs (disch:=omega) only[go_sem,decide_eq_false (aKj w aKr)];exact hq _ rfl rfl rfl rfl
   . simp-implicitDefEqProofs (disch:=omega) only[go_sem]
     exact hq _ rfl rfl rfl rfl
 rintro i vs N hi ba ⟨rfl,rfl⟩;obtain⟨w,hw⟩:∃w,k[i]? =some w:=⟨k[i]'(by omega),by simp⟩;have aKs:w∈T:=dQ (show T[i]? =some w by rw[<-fj,gp hi] at hw;exact hw);have aJB:=aJN w aKs;have i6:decide ((i:Int)<(k.length:Int))=true:=decide_eq_true (by omega);simp-implicitDefEqProofs (disch:=omega) only[go_sem,i6,vr i (by omega),tY i w hw,aq];first|refine b1 (C5 w) ?_|refine bV (C5 w) ?_
 simp-implicitDefEqProofs (disch:=omega) only[go_sem,decide_eq_true aJB];exact cS hi ⟨rfl,rfl⟩
theorem Y6{M:Mem}{x:V}{l:List bO}{v:bO}(h:uQ M x l)(ag:l.length<=1000000000000):b9 au I5 [x,.agg v.row] M (fun r ah=>uQ ah r (rY l v)):=by
 obtain⟨c,m1⟩:=PJ h v;refine hl Tj (by simp[tD]) ?_;have fb:∀(K:Mem)(B:a1),(K++[B])[K.length]? =some B:=fun K B=>by simp
 have is:∀(K:Mem)(B X:a1),(K++[B]).set K.length X=K++[X]:=fun K B X=>by simp
 have HJ:=Wn l c v (by omega);simp only[bO.row] at HJ;have xv:=PJ (KY h [.box v.row]) v;simp only[hg];simp only[bO.row] at xv;simp-implicitDefEqProofs (disch:=omega) only[go_sem,tD,bO.row,fb];obtain⟨c,xv⟩:=xv;have HJ:=Wn l c v ag;simp only[bO.row] at HJ;refine aCR HJ xv rfl rfl ?_;simp-implicitDefEqProofs (disch:=omega) only[go_sem];refine ck (fun g=>?_) (fun g=>?_)
 . simp-implicitDefEqProofs (disch:=omega) only[go_sem]
   rw[rY,if_pos g];exact KY h _
 have zX:rY l v=rX v (lN v l)++v::sb v (lN v l):=by rw[rY,if_neg (by rw[g];simp)]
 rw[zX];rcases h with⟨rfl,rfl⟩|⟨b,ver,rfl,aj,pt⟩
 . have cD:decide (((0:Nat):Int)<((0:Nat):Int))=false:=rfl
   have pr:=fun zero N=>VJ zero 4 32 0 N (by omega) (by omega);simp-implicitDefEqProofs (disch:=omega) only[go_sem];refine ge 0 (fun i vs N=>vs=[.slice [] .nil,.ptr M.length 0,.int .i64 0,.slice [] .nil,.int .i64 ((0:Nat):Int),.int .i64 0]/\N=M++[.box v.row]) ⟨rfl,rfl⟩ (fun i _ _ hi=>absurd hi (e8 i)) ?_;rintro vs N ⟨rfl,rfl⟩;simp-implicitDefEqProofs (disch:=omega) only[go_sem];refine a5 (fun g=>absurd g (by decide)) (fun g=>?_);refine ge 0 (fun i vs N=>vs=[.slice [] .nil,.ptr M.length 0,.int .i64 0,.int .i64 0]/\N=M++[.box v.row]) ⟨rfl,rfl⟩ (fun i _ _ hi=>absurd hi (e8 i)) ?_;rintro vs N ⟨rfl,rfl⟩;simp-implicitDefEqProofs (disch:=omega) only[go_sem];refine a5 (fun g=>absurd g (by decide)) (fun g=>?_);have jF:∀N,yz 4 (.slice [] .nil) (.int .i64 0) (.int .i64 0) N=some (.slice [] .nil,N):=fun N=>rfl;have eA:∀N,hf 4 (.slice [] .nil) (some (.int .i64 0)) (some (.int .i64 0)) none N=some (.slice [] .nil):=fun N=>rfl;have a_:((0:Int) -0)=((0:Nat):Int):=rfl;have i5:u4 4 (.aZ (M.length+1) 0 0 0) (.slice [] .nil) (M++[.box v.row]++[.arr 4 (f_ 0 [V.int .i64 0,.int .i64 0,.int .i64 0,.int .i64 0]) 0 0])=some (.int .i64 0,M++[.box v.row]++[.arr 4 [] 0 0]):=by
    simp[u4,eK,fr,oF]
   have xp:dX false 4 32 (.slice [] .nil) (.slice [v.row] .full) (M++[.box v.row]++[.arr 4 [] 0 0])=some (.aZ (M.length+2) 0 0 1,M++[.box v.row]++[.arr 4 [] 0 0]++[.arr 4 [v.row] 0 0]):=by
    simp[dX,eK,fr,g0,bO.row]
   have ve:dX false 4 32 (.aZ (M.length+2) 0 0 1) (.aZ (M.length+1) 0 0 0) (M++[.box v.row]++[.arr 4 [] 0 0]++[.arr 4 [v.row] 0 0])=some (.aZ (M.length+2) 1 0 1,M++[.box v.row]++[.arr 4 [] 0 0]++[.arr 4 [v.row] 1 0]):=by
    have a4:(M++[a1.box v.row]++[a1.arr 4 [] 0 0]++[a1.arr 4 [v.row] 0 0])[M.length+1]? =some (a1.arr 4 [] 0 0):=by rw[en,en,i1];rfl
    have bd:(M++[a1.box v.row]++[a1.arr 4 [] 0 0]++[a1.arr 4 [v.row] 0 0])[M.length+2]? =some (a1.arr 4 [v.row] 0 0):=by rw[en,en,i1];rfl
    have e3:∀X,(M++[a1.box v.row]++[a1.arr 4 [] 0 0]++[a1.arr 4 [v.row] 0 0]).set (M.length+2) X=M++[a1.box v.row]++[a1.arr 4 [] 0 0]++[X]:=fun X=>by rw[en,en,lj,en,en];rfl
    simp only[dX,eK,a4,g0,bd,e3];rfl
   have xQ:∀L,(M++[.box v.row]++L)[M.length]? =some (.box v.row):=fun L=>by rw[en,eT];rfl
   simp only[bO.row] at i5 xp ve xQ;simp-implicitDefEqProofs (disch:=omega) only[go_sem,↓bm 44,↓bm 46,↓bm 48,↓bm 49,↓bm 50,↓bm 51,bO.row,a_,pr,jF,eA,i5,xQ,xp,ve];refine .inr ⟨M.length+2,1,rfl,?_,Nat.zero_lt_one⟩;rw[en,en,i1];rfl
 have mB:b<M.length:=(bo.1 aj).1;have vf:=fun L=>bY aj L;simp-implicitDefEqProofs (disch:=omega) only[go_sem,vf];refine ej l (fun i vs N=>∃X:List bO,vs=[.aZ b ver 0 l.length,.ptr M.length 0,.int .i64 (lN v (l.take i)).length,.aZ b ver 0 l.length,.int .i64 l.length,.int .i64 i]/\N[b]? =some (.arr 4 (X.map bO.row) ver 0)/\N[M.length]? =some (.box v.row)/\X.length=l.length/\X.take (lN v (l.take i)).length=lN v (l.take i)/\X.drop i=l.drop i)
  ⟨l,rfl,vf _,by rw[eT];rfl,rfl,rfl,rfl⟩ ?_ ?_;rotate_left
 . rintro vs N ⟨X,rfl,dc,zB,tL,CY,_⟩
   rw[gB] at CY;simp-implicitDefEqProofs (disch:=omega) only[go_sem,db];rw[gB];have gO:=OB v l;exact aNE dc zB (by omega) (by rw[eu];omega) (by rw[<-List.map_take,CY]) (by rw[eu];omega) _ (by rw[eu,tL];rfl) rfl rfl
 rintro i w vs N hw hi ba ⟨X,rfl,dc,zB,tL,CY,T4⟩;have T8:X[i]? =some w:=by
  have:=congrArg (·[0]?) T4;simpa[hw] using this
 have aHx:(X.map bO.row)[i]? =some w.row:=by rw[gX,T8];rfl
 have aRl:b<N.length:=(bo.1 dc).1;have aRm:M.length<N.length:=(bo.1 zB).1;have rr:=fun L=>bY dc L;have ME:=fun L=>bY zB L;have h0:decide (i<l.length)=true:=decide_eq_true (by omega);have gO:(lN v (l.take i)).length<=i:=kb (OB _ _) (by rw[iS];omega);have rI:lN v (l.take (i+1))=lN v (l.take i)++if Au v w=true then[] else[w]:=by
  rw[iu,hw,lN,List.filter_append];cases h:Au v w<;>simp[lN,h]
 have T7:X.drop (i+1)=l.drop (i+1):=by rw[<-List.drop_drop (i:=1) (j:=i),T4,List.drop_drop]
 have MY:=aNd v w;simp only[bO.row] at MY ME zB;simp only[gX] at aHx;simp-implicitDefEqProofs (disch:=omega) only[go_sem,ba,dc,ME,T8,fb,is,tL,h0,bO.row];first|refine b1 (MY) ?_|refine bV (MY) ?_
 simp-implicitDefEqProofs (disch:=omega) only[go_sem];refine ck (fun af=>?_) (fun af=>?_)
 . rw[if_pos af,fA] at rI
   simp-implicitDefEqProofs (disch:=omega) only[go_sem];exact cS hi ⟨X,by rw[rI];rfl,bY dc _,bY zB _,tL,by rw[rI];exact CY,T7⟩
 rw[if_neg (by rw[af];simp)] at rI;have aH7:decide ((lN v (l.take i)).length<l.length)=true:=decide_eq_true (by omega);obtain⟨y,aE⟩:∃y,X[(lN v (l.take i)).length]? =some y:=⟨X[(lN v (l.take i)).length]'(by omega),by simp⟩;simp-implicitDefEqProofs (disch:=omega) only[go_sem,rr,fb,tL,aH7,aE,bO.row];have aJa:(lN v (l.take i)).length<X.length:=by omega
 refine cS hi ⟨X.set (lN v (l.take i)).length w,by rw[rI,dz];rfl,?_,?_,by rw[eR];exact tL,?_,?_⟩
 . rw[eB (by rw[dz];omega),List.map_set];rfl
 . rw[dv (by omega)];exact ME _
 . rw[rI,dz,List.length_singleton,iu,eB aJa,List.take_set,List.set_eq_of_length_le (by rw[iS];omega),CY];rfl
 . rw[List.drop_set_of_lt (by omega)];exact T7
theorem aNC(l:List bO)(v:bO):(rY l v).length<=l.length+1:=by
 unfold rY;split
 . omega
 . have aa:=congrArg List.length (Ox v (lN v l))
   rw[dz] at aa;have af:=OB v l;rw[dz,dC];omega
theorem aGU(l:List bO)(v:bO):mZ (l++[v])=rY (mZ l) v:=by simp[mZ,List.foldl_append]
theorem Mr:∀l:List bO,(mZ l).length<=l.length:=fun l=>by
 have:∀(l a:List bO),(l.foldl rY a).length<=a.length+l.length:=fun l=>by
  induction l with
  |nil=>exact fun a=>by simp
  |cons v l bu=>
   intro a;have aa:=bu (rY a v);have af:=aNC a v;simp only[List.foldl_cons,dC];omega
 simpa[mZ] using this l []
def LF:List bO->c4
 |[]=>.nil
 |_::_=>.cx
theorem Y4(l:List bO)(c:c4)(ag:l.length<=1000000000000):bT au I3 [.slice (l.map bO.row) c] (fun x=>x=.slice ((mZ l).map bO.row) (LF (mZ l))):=by
 have fb:∀(K:Mem)(B:a1),(K++[B])[K.length]? =some B:=fun K B=>by simp
 have is:∀(K:Mem)(B X:a1),(K++[B]).set K.length X=K++[X]:=fun K B X=>by simp
 refine bP Th (by simp[Ct]) ?_;simp-implicitDefEqProofs (disch:=omega) only[go_sem,Ct];refine ej l (fun i vs N=>∃x,vs=[x,.slice (l.map bO.row) c,.int .i64 l.length,.int .i64 i]/\uQ N x (mZ (l.take i))) ⟨_,rfl,.inl ⟨rfl,rfl⟩⟩ ?_ ?_;rotate_left
 . rintro vs N ⟨x,rfl,h⟩
   rw[gB] at h;generalize mZ l=f at h⊢;simp-implicitDefEqProofs (disch:=omega) only[go_sem,db];rcases h with⟨rfl,rfl⟩|⟨b,ver,rfl,aj,ay⟩
   . simp-implicitDefEqProofs (disch:=omega) only[go_sem,↓bm 24]
     rfl
   . have ig:decide (b<0)=false:=decide_eq_false (e8 _)
     have aV:(f.map bO.row).take f.length=f.map bO.row:=g_ (by simp);have ar:LF f=.cx:=by cases f with
      |nil=>cases ay
      |cons _ _=>rfl
     simp-implicitDefEqProofs (disch:=omega) only[go_sem,↓bm 24,aj,ig,aV,ar]
 rintro i v vs N aq hi ba ⟨x,rfl,h⟩;have aV:mZ (l.take (i+1))=rY (mZ (l.take i)) v:=by rw[iu,aq];exact aGU _ _
 have g3:=Mr (l.take i);rw[iS] at g3;have ay:=Y6 (v:=v) (KY h [.box v.row]) (by omega);simp only[bO.row] at ay;simp-implicitDefEqProofs (disch:=omega) only[go_sem,ba,aq,fb,is,bO.row];refine ew ay ?_;intro r ah an;simp-implicitDefEqProofs (disch:=omega) only[go_sem];exact cS hi ⟨r,rfl,by rw[aV];exact an⟩
end Go.aL.C
namespace Go.aL.C
open Go.aL
structure de where
 a3:List cd
 lc:c4
 cost:n6
 EO:List b_
 O8:c4
def de.row(o:de):List V:=[.slice (o.a3.map cd.row) o.lc,.int .i64 o.cost.cf,.int .i64 o.cost.cJ,.int .i64 o.cost.b5,.int .i64 o.cost.xc,.int .i64 o.cost.walk,.slice (o.EO.map b_.row) o.O8]
def jR(c:n6):bO:=⟨c.cJ,c.b5,c.xc,c.walk⟩
theorem abf(q:Query)(c:n6)(aG:q.back=false):bT au II [.agg q.row,.agg c.row] (fun v=>v=.agg (jR c).row):=by
 refine bP S8 (by simp[Cd]) ?_;simp-implicitDefEqProofs (disch:=omega) only[go_sem,Cd,Query.row,n6.row,aG,jR,bO.row]
def qJ(l:List de)(v:bO):List de:=(l.find? fun o=>decide (jR o.cost=v)).toList
def mw(l:List de)(n:Nat):List de:=((mZ (l.map fun o=>jR o.cost)).take n).flatMap (qJ l)
def sw(l:List de):List de:=(mZ (l.map fun o=>jR o.cost)).flatMap (qJ l)
theorem Wu(l:List de)(v:bO):(qJ l v).length<=1:=by
 unfold qJ;cases l.find? _<;>simp
theorem St{α β:Type}(g:α->List β)(h:∀x,(g x).length<=1)(l:List α):(l.flatMap g).length<=l.length:=by
 induction l with
 |nil=>simp
 |cons x l bu=>have:=h x;simp only[List.flatMap_cons,dz,dC];omega
theorem aER{α:Type}{l:List α}{p:α->Bool}{i:Nat}{o:α}(h:l[i]? =some o)(aK:(l.take i).find? p=none)(ay:p o=true):l.find? p=some o:=by
 rw[<-List.take_append_drop i l,List.find?_append,aK,sA h,List.find?_cons_of_pos ay];rfl
theorem aDh(q:Query)(l:List de)(c:c4)(aG:q.back=false)(ag:l.length<=1000000000000):bT au I_ [.agg q.row,.slice (l.map de.row) c] (fun v=>v=.slice ((sw l).map de.row) .cx):=by
 refine bP Ts (by simp[CD]) ?_;simp-implicitDefEqProofs (disch:=omega) only[go_sem,CD,Query.row];refine ej l (fun i vs N=>∃ver,vs=[.slice (l.map de.row) c,.ptr 0 0,.aZ 1 ver 0 i,.slice (l.map de.row) c,.int .i64 l.length,.int .i64 i]/\N=[.box q.row,.arr 4 ((l.take i).map fun o=>(jR o.cost).row) ver 0]) ⟨0,rfl,rfl⟩ ?_ ?_
 . rintro i o vs N aA hi ba ⟨ver,rfl,rfl⟩
   have aq:=abf q o.cost aG;have vG:((l.take i).map fun o=>(jR o.cost).row).length=i:=by simp;omega
   have aV:((l.take i).map fun o=>(jR o.cost).row)++[(jR o.cost).row]=(l.take (i+1)).map fun o=>(jR o.cost).row:=by rw[iu,aA];simp
   have i4:∀(a d:a1)(R:List (List V))(v:bO),R.length=i->dX false 4 32 (.aZ 1 ver 0 i) (.slice [[.int .i64 v.a,.int .i64 v.b,.int .i64 v.c,.int .i64 v.d]] .full) [a,.arr 4 R ver 0,d]=
    some (.aZ 1 (ver+1) 0 (i+1),[a,.arr 4 (R++[v.row]) (ver+1) 0,d]):=fun a d R v fI=>sp rfl fI rfl (by omega);have i4:=fun a d=>i4 a d _ (jR o.cost) vG;simp only[Query.row,n6.row,bO.row] at aq;generalize((l.take i).map fun o=>(jR o.cost).row)=R at aV vG i4⊢;simp-implicitDefEqProofs (disch:=omega) only[go_sem,ba,aA,de.row,Query.row];first|refine b1 (aq) ?_|refine bV (aq) ?_
   simp-implicitDefEqProofs (disch:=omega) only[go_sem,i4,aV];exact dJ hi rfl ⟨ver+1,rfl,rfl⟩
 rintro vs N ⟨ver,rfl,rfl⟩;rw[gB];simp-implicitDefEqProofs (disch:=omega) only[go_sem,db];have DD:(l.map fun o=>(jR o.cost).row)=(l.map fun o=>jR o.cost).map bO.row:=by rw[List.map_map];rfl
 have kp:(l.map fun o=>jR o.cost).length=l.length:=eu _;have Vb:∀(i:Nat)(o:de),l[i]? =some o->((l.map fun o=>jR o.cost).map bO.row)[i]? =some (jR o.cost).row:=fun i o h=>by rw[gX,gX,h];rfl
 rw[DD];have rA:∀n,mw l n=((mZ (l.map fun o=>jR o.cost)).take n).flatMap (qJ l):=fun n=>rfl;have xv:sw l=(mZ (l.map fun o=>jR o.cost)).flatMap (qJ l):=rfl;have g3:=Mr (l.map fun o=>jR o.cost);have tT:=Y4 (l.map fun o=>jR o.cost) .cx (by rw[kp];exact ag);rw[kp] at g3;generalize mZ (l.map fun o=>jR o.cost)=cr at rA xv g3 tT;generalize(l.map fun o=>jR o.cost)=p4 at kp Vb tT⊢;generalize LF cr=Rr at tT;obtain⟨fz,aJs⟩:∃fz,oC (.aZ 1 ver 0 l.length) [.box q.row,.arr 4 (p4.map bO.row) ver 0,.arr 7 [] 0 0]=some (.slice (p4.map bO.row) .cx,[.box q.row,.arr 4 (p4.map bO.row) ver fz,.arr 7 [] 0 0]):=by
  rw[<-kp];cases p4 with
  |nil=>exact⟨0,by simp[oC]⟩
  |cons x xs=>exact⟨max 0 (xs.length+1),by simp[oC,KD]⟩
 simp-implicitDefEqProofs (disch:=omega) only[go_sem,↓bm 26,aJs];first|refine b1 (tT) ?_|refine bV (tT) ?_
 simp-implicitDefEqProofs (disch:=omega) only[go_sem];refine ej cr (fun j vs N=>∃iQ,vs=[.slice (l.map de.row) c,.aZ 1 ver 0 l.length,.aZ 2 iQ 0 (mw l j).length,.slice (cr.map bO.row) Rr,.int .i64 cr.length,.int .i64 j]/\N=[.box q.row,.arr 4 (p4.map bO.row) ver fz,.arr 7 ((mw l j).map de.row) iQ 0]) ⟨0,by simp[rA,dr,aX],by simp[rA]⟩ ?_ ?_;rotate_left
 . rintro vs N ⟨iQ,rfl,rfl⟩
   have e:mw l cr.length=sw l:=by rw[rA,xv,gB]
   rw[e];have aV:((sw l).map de.row).take (sw l).length=(sw l).map de.row:=g_ (by simp);simp-implicitDefEqProofs (disch:=omega) only[go_sem,↓bm 65,db,aV]
 rintro j v vs N aq ap lJ ⟨iQ,rfl,rfl⟩;have dg:(mw l j).length<=j:=by
  rw[rA];exact kb (St _ (Wu l) _) (by rw[iS];omega)
 have zG:mw l (j+1)=mw l j++qJ l v:=by rw[rA,rA,iu,aq];simp
 simp-implicitDefEqProofs (disch:=omega) only[go_sem,lJ,aq,bO.row];refine ej l (fun i vs N=>(l.take i).find? (fun o=>decide (jR o.cost=v))=none/\vs=[.slice (l.map de.row) c,.aZ 1 ver 0 l.length,.aZ 2 iQ 0 (mw l j).length,.ptr 3 0,.slice (cr.map bO.row) Rr,.int .i64 cr.length,.int .i64 j,.slice (l.map de.row) c,.int .i64 l.length,.int .i64 i]/\
  N=[.box q.row,.arr 4 (p4.map bO.row) ver fz,.arr 7 ((mw l j).map de.row) iQ 0,.box v.row]) ⟨rfl,rfl,rfl⟩ ?_ ?_;rotate_left
 . rintro vs N ⟨aK,rfl,rfl⟩
   rw[gB] at aK;have ay:qJ l v=[]:=by rw[qJ,aK];rfl
   rw[ay,fA] at zG;simp-implicitDefEqProofs (disch:=omega) only[go_sem,db];exact dJ ap rfl ⟨iQ,by rw[zG];rfl,by rw[zG];rfl⟩
 rintro i o vs N aA hi ba ⟨aK,rfl,rfl⟩;have zV:=Vb i o aA;simp only[bO.row] at zV;have h0:decide (i<l.length)=true:=decide_eq_true hi;have aH_:decide (l.length<=p4.length)=true:=decide_eq_true (by omega);simp-implicitDefEqProofs (disch:=omega) only[go_sem,ba,aA,de.row,bO.row,zV,h0,aH_];rw[Pk];refine a5 (fun g=>?_) (fun g=>?_)
 . have ay:qJ l v=[o]:=by rw[qJ,aER aA aK (decide_eq_true g)];rfl
   rw[ay] at zG;have i4:∀(a b d e:a1),dX false 7 88 (.aZ 2 iQ 0 (mw l j).length) (.slice [o.row] .full) [a,b,.arr 7 ((mw l j).map de.row) iQ 0,d,e]=
    some (.aZ 2 (iQ+1) 0 ((mw l j).length+1),[a,b,.arr 7 ((mw l j).map de.row++[o.row]) (iQ+1) 0,d,e]):=fun a b d e=>sp rfl (by simp) rfl (by omega);have hm:((mw l j).map de.row++[o.row])=(mw l (j+1)).map de.row:=by rw[zG,List.map_append];rfl
   have qm:(mw l j).length+1=(mw l (j+1)).length:=by rw[zG,dz];rfl
   rw[hm,qm] at i4;simp only[de.row] at i4;simp-implicitDefEqProofs (disch:=omega) only[go_sem,i4];exact dJ ap rfl ⟨iQ+1,rfl,rfl⟩
 . simp-implicitDefEqProofs (disch:=omega) only[go_sem]
   refine dJ hi rfl ⟨?_,rfl,rfl⟩;rw[iu,aA,List.find?_append,aK];simp[g]
end Go.aL.C
namespace Go.aL.C
open Go.aL
theorem x7{M:Mem}{a sz ver fz i:Nat}{R:List (List V)}{r:List V}(a7:M[a]? =some (.arr sz R ver fz))(hi:R[i]? =some r)(an:r.length=sz):g4 sz true (.fq a ver i 0) M=some (.agg r):=by
 have aw:decide (0+sz<=r.length)=true:=decide_eq_true (by omega);simp only[g4,a7,beq_self_eq_true,cond_true,hi,iM,aw,lW,g_ (Nat.le_of_eq an)]
theorem ue{M:Mem}{a sz ver fz i n:Nat}{R:List (List V)}(a7:M[a]? =some (.arr sz R ver fz))(hi:i<n)(aK:n<=R.length):iz sz (.aZ a ver 0 n) (.int .i64 (i:Int)) M=some (.fq a ver i 0):=by
 have aa:decide (0<=(i:Int))=true:=decide_eq_true (by omega);have af:decide (n<=R.length)=true:=decide_eq_true aK;simp only[iz,aa,cond_true,a7,beq_self_eq_true,kU,decide_eq_true hi,ee,af,eQ]
theorem Ek{M:Mem}{a sz ver fz n:Nat}{R:List (List V)}(a7:M[a]? =some (.arr sz R ver fz)):iA (.aZ a ver 0 n) M=some (.int .i64 n):=by
 simp only[iA,a7,beq_self_eq_true,cond_true]
structure Place where
 kind:Int
 stop:Int
 run:Int
 cm:Int
 cY:bf
def Place.row(p:Place):List V:=[.int .i64 p.kind,.int .i64 p.stop,.int .i64 p.run,.int .i64 p.cm,.int .i64 p.cY.cf,.int .i64 p.cY.cJ,.int .i64 p.cY.gf,.int .i64 p.cY.eW]
structure aJ where
 place:Place
 time:Int
 b5:Int
 walk:Int
 base:List bf
 a3:List cd
 tag:c4
def aJ.row(f:bp)(l:aJ):List V:=[.int .i64 l.place.kind,.int .i64 l.place.stop,.int .i64 l.place.run,.int .i64 l.place.cm,.int .i64 l.place.cY.cf,.int .i64 l.place.cY.cJ,.int .i64 l.place.cY.gf,.int .i64 l.place.cY.eW,
 .int .i64 l.time,.int .i64 l.b5,.int .i64 l.walk,gN f l.base,.slice (l.a3.map cd.row) l.tag]
theorem Mq(f:bp)(rl:List bf):(gN f rl).iK=true/\(gN f rl).ku=true:=by cases rl<;>exact⟨rfl,rfl⟩
theorem aJ.len(f:bp)(l:aJ):(l.row f).length=13:=rfl
theorem aJ.cell(f:bp)(l:aJ):nq (l.row f)=true:=by simp only[aJ.row,nq,(Mq f l.base).1];rfl
theorem aJ.pure(f:bp)(l:aJ):hC (l.row f)=true:=by simp only[aJ.row,hC,(Mq f l.base).2];rfl
theorem aJ.under(f:bp)(l:aJ)(n:Nat):cT n (l.row f)=true:=by simp only[aJ.row,cT,Ht];rfl
theorem abP(a b:List V):nq (a++b)=(nq a&&nq b):=by induction a with
 |nil=>simp[nq]
 |cons x a bu=>simp[nq,bu,Bool.and_assoc]
theorem abR(a b:List V):hC (a++b)=(hC a&&hC b):=by induction a with
 |nil=>simp[hC]
 |cons x a bu=>simp[hC,bu,Bool.and_assoc]
def d0(f:bp)(x:aJ×Int):List V:=x.1.row f++[.int .i64 x.2]
theorem pQ(f:bp)(x:aJ×Int):(d0 f x).length=14:=rfl
theorem WZ(f:bp)(x:aJ×Int):nq (d0 f x)=true:=by rw[d0,abP,aJ.cell];rfl
theorem OJ(f:bp)(x:aJ×Int):hC (d0 f x)=true:=by rw[d0,abR,aJ.pure];rfl
theorem Oz(f:bp)(x:aJ×Int):g5 [.int .i64 0,.int .i64 0,.int .i64 0,.int .i64 0,.int .i64 0,.int .i64 0,.int .i64 0,.int .i64 0,.int .i64 0,.int .i64 0,.int .i64 0,.dE,.slice [] .nil,.int .i64 0] 0 (d0 f x)=d0 f x:=rfl
theorem AK(f:bp)(l:aJ):g5 [.int .i64 0,.int .i64 0,.int .i64 0,.int .i64 0,.int .i64 0,.int .i64 0,.int .i64 0,.int .i64 0,.int .i64 0,.int .i64 0,.int .i64 0,.dE,.slice [] .nil] 0 (l.row f)=l.row f:=rfl
structure gM(f:bp)(M:Mem)(h a ver:Nat)(c:Int)(l:List (aJ×Int))(b6:List (List V)):Prop where
 h:M[h]? =some (.box [.dF kr [],.aZ a ver 0 l.length,.int .i64 c])
 a:M[a]? =some (.arr 14 (l.map (d0 f)++b6) ver 0)
theorem gM.app{f:bp}{M:Mem}{h a ver:Nat}{c:Int}{l:List (aJ×Int)}{b6:List (List V)}(H:gM f M h a ver c l b6)(L:Mem):gM f (M++L) h a ver c l b6:=⟨bY H.h L,bY H.a L⟩
theorem gM.ne{f:bp}{M:Mem}{h a ver:Nat}{c:Int}{l:List (aJ×Int)}{b6:List (List V)}(H:gM f M h a ver c l b6):h≠a:=fun e=>by
 have aa:=H.h;rw[e,H.a] at aa;cases aa
theorem gM.set{f:bp}{M:Mem}{h a ver:Nat}{c:Int}{l l':List (aJ×Int)}{b6:List (List V)}(H:gM f M h a ver c l b6)(ag:l'.length=l.length):gM f (M.set a (.arr 14 (l'.map (d0 f)++b6) ver 0)) h a ver c l' b6:=
 ⟨by rw[dv H.ne.symm,ag];exact H.h,eB (bo.1 H.a).1⟩
theorem Vz(f:bp)(a b:aJ):bT au kr [.agg (a.row f),.agg (b.row f)] (fun v=>v=.bool (decide (a.time<b.time))):=by
 refine bP Tp (by simp[CB]) ?_;simp-implicitDefEqProofs (disch:=omega) only[go_sem,CB,aJ.len];have cp:∀l:aJ,(l.row f)[8]? =some (.int .i64 l.time):=fun _=>rfl;simp-implicitDefEqProofs (disch:=omega) only[go_sem,cp]
theorem Ls{f:bp}{M:Mem}{h a ver:Nat}{c:Int}{l:List (aJ×Int)}{b6:List (List V)}(H:gM f M h a ver c l b6){i k:Nat}(hi:i<l.length)(ao:k<l.length):
 b9 au z7 [.ptr h 0,.int .i64 i,.int .i64 k] M (fun v ah=>Bb v/\∃G,ah=M++G):=by
 have tL:(l.map (d0 f)++b6).length=l.length+b6.length:=by simp
 obtain⟨x,ad⟩:∃x,l[i]? =some x:=⟨l[i],by simp⟩;obtain⟨y,aE⟩:∃y,l[k]? =some y:=⟨l[k],by simp⟩;have pA:(l.map (d0 f)++b6)[i]? =some (d0 f x):=by rw[gp (by simpa using hi),gX,ad];rfl
 have qr:(l.map (d0 f)++b6)[k]? =some (d0 f y):=by rw[gp (by simpa using ao),gX,aE];rfl
 have ES:=fun L=>ue (bY H.a L) hi (by omega);have ET:=fun L=>ue (bY H.a L) ao (by omega);have li:=fun L=>x7 (bY H.a L) pA (pQ f x);have El:=fun L=>x7 (bY H.a L) qr (pQ f y);have aQO:=ue H.a hi (by omega);have aQP:=ue H.a ao (by omega);have aLG:=x7 H.a pA (pQ f x);have aLL:=x7 H.a qr (pQ f y);have a8:=fun L=>bY H.h L;have cn:=H.h;have rp:=fun L=>eT M L;have aT:=fun L=>i1 M L;have s0:=fun L=>jM M L;have s1:=fun L=>lj M L;refine hl SY (by simp[B6]) ?_;simp only[hg];have KA:∀x:aJ×Int,(d0 f x).take 13=x.1.row f:=fun x=>rfl;have aG0:∀x:aJ×Int,(d0 f x)[13]? =some (.int .i64 x.2):=fun x=>rfl;have hu:∀a b:aJ,cT 0 [.agg (a.row f),.agg (b.row f)]=true:=fun a b=>by simp only[cT,V.under,aJ.under];rfl
 simp-implicitDefEqProofs (disch:=omega) only[go_sem,B6,e1,cn,a8,ES,ET,li,El,aQO,aQP,aLG,aLL,rp,aT,s0,s1,pQ,WZ,Oz,KA,en];refine fw (Vz f x.1 y.1) ?_ (hu _ _);rintro v rfl;simp-implicitDefEqProofs (disch:=omega) only[go_sem];refine a5 (fun aa=>?_) (fun aa=>?_)
 . simp-implicitDefEqProofs (disch:=omega) only[go_sem]
   exact⟨⟨_,rfl⟩,_,rfl⟩
 simp-implicitDefEqProofs (disch:=omega) only[go_sem,e1,a8,rp,aT,pQ,KA];refine fw (Vz f y.1 x.1) ?_ (hu _ _);rintro v rfl;simp-implicitDefEqProofs (disch:=omega) only[go_sem];refine a5 (fun aa=>?_) (fun aa=>?_)
 . simp-implicitDefEqProofs (disch:=omega) only[go_sem]
   exact⟨⟨_,rfl⟩,_,rfl⟩
 simp-implicitDefEqProofs (disch:=omega) only[go_sem,rp,aT,aG0];exact⟨⟨_,rfl⟩,_,rfl⟩
theorem O6{f:bp}{M:Mem}{h a ver:Nat}{c:Int}{l:List (aJ×Int)}{b6:List (List V)}(H:gM f M h a ver c l b6){i k:Nat}{x y:aJ×Int}(hi:l[i]? =some x)(ao:l[k]? =some y):
 b9 au z8 [.ptr h 0,.int .i64 i,.int .i64 k] M (fun v ah=>v=.tuple []/\ah=M.set a (.arr 14 (((l.set i y).set k x).map (d0 f)++b6) ver 0)):=by
 have km:=(bo.1 hi).1;have gO:=(bo.1 ao).1;have tL:(l.map (d0 f)++b6).length=l.length+b6.length:=by simp
 have pA:(l.map (d0 f)++b6)[i]? =some (d0 f x):=by rw[gp (by simpa using km),gX,hi];rfl
 have qr:(l.map (d0 f)++b6)[k]? =some (d0 f y):=by rw[gp (by simpa using gO),gX,ao];rfl
 have xE:∀(l:List (aJ×Int))(i:Nat)(z:aJ×Int),i<l.length->(l.map (d0 f)++b6).set i (d0 f z)=(l.set i z).map (d0 f)++b6:=fun l i z hi=>by
  rw[List.set_append,if_pos (by simpa using hi),List.map_set]
 have H1:=H.set (l':=l.set i y) (eR);obtain⟨z,a_⟩:∃z,(l.set i y)[k]? =some z:=⟨(l.set i y)[k]'(by rw[eR];exact gO),by simp⟩;have aJ3:((l.set i y).map (d0 f)++b6)[k]? =some (d0 f z):=by rw[gp (by simpa using gO),gX,a_];rfl
 have ES:=ue H.a km (by omega);have ET:=ue H.a gO (by omega);have li:=x7 H.a pA (pQ f x);have El:=x7 H.a qr (pQ f y);have KP:=ue H1.a gO (by simp);have cn:=H.h;refine hl S0 (by simp[B8]) ?_;simp only[hg];have EC:∀x y:aJ×Int,g5 (d0 f x) 0 (d0 f y)=d0 f y:=fun _ _=>rfl;have h2:=xE l i y km;have jb:=xE (l.set i y) k x (by rw[eR];exact gO);have bW:=H.a;have b8:=H1.a;have aPk:∀X Y,(M.set a X).set a Y=M.set a Y:=fun X Y=>List.set_set ..;simp-implicitDefEqProofs (disch:=omega) only[go_sem,B8,e1,cn,ES,ET,li,El,KP,pQ,WZ,OJ,EC,pA,aJ3,h2,jb,bW,b8,aPk]
end Go.aL.C
namespace Go.aL.C
open Go.aL
theorem O5{α:Type}{l:List α}{i k:Nat}{x y:α}(hi:l[i]? =some x)(ao:l[k]? =some y):((l.set i y).set k x).Perm l:=by
 obtain⟨aa,rfl⟩:=bo.1 hi;obtain⟨af,rfl⟩:=bo.1 ao;exact List.set_set_perm aa af
def ky(f:bp)(M:Mem)(a ver:Nat)(b6:List (List V))(l:List (aJ×Int))(G:Mem):Mem:=M.set a (.arr 14 (l.map (d0 f)++b6) ver 0)++G
theorem gM.qM{f:bp}{M:Mem}{h a ver:Nat}{c:Int}{l l':List (aJ×Int)}{b6:List (List V)}(H:gM f M h a ver c l b6)(ag:l'.length=l.length)(G:Mem):gM f (ky f M a ver b6 l' G) h a ver c l' b6:=(H.set ag).app G
theorem PV{f:bp}{M:Mem}{a ver:Nat}{b6:List (List V)}(a9:a<M.length)(l l':List (aJ×Int))(G:Mem):(ky f M a ver b6 l G).set a (.arr 14 (l'.map (d0 f)++b6) ver 0)=ky f M a ver b6 l' G:=by
 rw[ky,nV (by rw[eR];exact a9),List.set_set];rfl
theorem Lb(f:bp)(M:Mem)(a ver:Nat)(b6:List (List V))(l:List (aJ×Int))(G K:Mem):ky f M a ver b6 l G++K=ky f M a ver b6 l (G++K):=by rw[ky,ky,en]
theorem PW{f:bp}{M:Mem}{h a ver:Nat}{c:Int}{l:List (aJ×Int)}{b6:List (List V)}(H:gM f M h a ver c l b6):ky f M a ver b6 l []=M:=by
 rw[ky,fA];obtain⟨aa,af⟩:=bo.1 H.a;rw[<-af,List.set_getElem_self]
theorem OV{f:bp}{M:Mem}{h a ver:Nat}{c:Int}{l l':List (aJ×Int)}{b6:List (List V)}(H:gM f M h a ver c l b6)(ag:l'.length=l.length)(G:Mem)(Q:Exit->aI->Mem->Prop)(s:aI){i k:Nat}(hi:i<l.length)(ao:k<l.length)
 (a8:aX s 0=.ptr h 0)(af:aX s 2=.int .i64 i)(az:aX s 3=.int .i64 k)(aJY:∀s oY,Q .ret s (ky f M a ver b6 l' oY))(lK:∀pE oY,pE.Perm l'->Q .normal [(0,.ptr h 0),(2,.int .i64 k)] (ky f M a ver b6 pE oY)):
 dn au QY Q s (ky f M a ver b6 l' G):=by
 have jn:a<M.length:=(bo.1 H.a).1;have gb:=H.qM ag G;simp-implicitDefEqProofs (disch:=omega) only[go_sem,↓bm 11,↓bm 17,a8,af,az];refine ew (Ls gb (by omega) (by omega)) ?_;rintro v _ ⟨⟨b,rfl⟩,oY,rfl⟩;rw[Lb];simp-implicitDefEqProofs (disch:=omega) only[go_sem,a8,af,az];refine ck (fun g=>?_) (fun g=>?_);rotate_left
 . simp-implicitDefEqProofs (disch:=omega) only[go_sem]
   exact aJY _ _
 obtain⟨x,ad⟩:∃x,l'[i]? =some x:=⟨l'[i]'(by omega),by simp⟩;obtain⟨y,aE⟩:∃y,l'[k]? =some y:=⟨l'[k]'(by omega),by simp⟩;have h9:=H.qM ag (G++oY);simp-implicitDefEqProofs (disch:=omega) only[go_sem,↓bm 13,↓bm 16,a8,af,az];refine ew (O6 h9 ad aE) ?_;rintro v _ ⟨rfl,rfl⟩;rw[PV jn];simp-implicitDefEqProofs (disch:=omega) only[go_sem,↓bm 15,a8,af,az];exact lK _ _ (O5 ad aE)
theorem aO4{f:bp}{M:Mem}{h a ver:Nat}{c:Int}{l:List (aJ×Int)}{b6:List (List V)}(H:gM f M h a ver c l b6)(aj:l.length<=1000000000000):
 b9 au ID [.ptr h 0] M (fun v ah=>v=.tuple []/\∃l' G,ah=ky f M a ver b6 l' G/\l'.Perm l):=by
 have jn:a<M.length:=(bo.1 H.a).1;refine hl SZ (by simp[B7]) ?_;simp only[hg];simp-implicitDefEqProofs (disch:=omega) only[go_sem,B7];refine lT (fun m vs N=>∃(i:Nat)(l':List (aJ×Int))(G:Mem),m=l.length -i/\vs=[.ptr h 0,.int .i64 i]/\N=ky f M a ver b6 l' G/\l'.Perm l/\i<=l.length) l.length
  ⟨0,l,[],rfl,rfl,(PW H).symm,.refl _,fR _⟩ ?_;rintro m vs N ⟨i,l',G,rfl,rfl,rfl,ay,km⟩;have er:=ay.length_eq;have gb:=H.qM er G;have a4:(2*(i:Int)+1)=((2*i+1:Nat):Int):=by omega
 have bd:(((2*i+1:Nat):Int)+1)=((2*i+2:Nat):Int):=by omega
 have cn:=fun K=>bY gb.h K;have vp:=gb.h;have aRW:=fun n K=>Ek (n:=n) (bY gb.a K);have VD:=fun n=>Ek (n:=n) gb.a;simp-implicitDefEqProofs (disch:=omega) only[go_sem,e1,vp,VD,a4,er];refine a5 (fun aT=>?_) (fun aT=>?_)
 . simp-implicitDefEqProofs (disch:=omega) only[go_sem]
   exact⟨l',G,rfl,ay⟩
 have fin:∀(k:Nat)(oY:Mem),2*i+1<=k->k<l.length->∀pE tl,pE.Perm l'->∃e6,e6<l.length -i/\∃(eO:Nat)(e4:List (aJ×Int))(Y7:Mem),e6=l.length -eO/\[V.ptr h 0,.int .i64 k]=[V.ptr h 0,.int .i64 eO]/\ky f M a ver b6 pE tl=ky f M a ver b6 e4 Y7/\e4.Perm l/\eO<=l.length:=
  fun k oY aa af pE tl ko=>⟨l.length -k,by omega,k,pE,tl,rfl,rfl,rfl,ko.trans ay,by omega⟩;simp-implicitDefEqProofs (disch:=omega) only[go_sem,e1,vp,VD,bd,er];refine a5 (fun a2=>?_) (fun a2=>?_)
 . simp-implicitDefEqProofs (disch:=omega) only[go_sem,bd]
   refine ew (Ls gb (by omega) (by omega)) ?_;rintro v _ ⟨⟨b,rfl⟩,oY,rfl⟩;rw[Lb];simp-implicitDefEqProofs (disch:=omega) only[go_sem];refine ck (fun g=>?_) (fun g=>?_)
   . simp-implicitDefEqProofs (disch:=omega) only[go_sem,bd]
     refine OV H er _ _ _ (i:=i) (k:=2*i+2) (by omega) (by omega) rfl rfl rfl (fun s oY=>⟨rfl,l',_,rfl,ay⟩) fun pE tl ko=>.inl (fin _ [] (by omega) (by omega) pE tl ko)
   . simp-implicitDefEqProofs (disch:=omega) only[go_sem]
     refine OV H er _ _ _ (i:=i) (k:=2*i+1) (by omega) (by omega) rfl rfl rfl (fun s oY=>⟨rfl,l',_,rfl,ay⟩) fun pE tl ko=>.inl (fin _ [] (by omega) (by omega) pE tl ko)
 . simp-implicitDefEqProofs (disch:=omega) only[go_sem]
   refine OV H er _ _ _ (i:=i) (k:=2*i+1) (by omega) (by omega) rfl rfl rfl (fun s oY=>⟨rfl,l',_,rfl,ay⟩) fun pE tl ko=>.inl (fin _ [] (by omega) (by omega) pE tl ko)
def fB(h:Nat)(M ah:Mem):Prop:=∀(i:Nat)(B:a1),M[i]? =some B->i≠h->(∀R ver fz,B≠.arr 14 R ver fz)->ah[i]? =some B
theorem fB.refl(h:Nat)(M:Mem):fB h M M:=fun _ _ h _ _=>h
theorem fB.trans{h:Nat}{M ah mr:Mem}(a:fB h M ah)(b:fB h ah mr):fB h M mr:=fun i B aa af az=>b i B (a i B aa af az) af az
theorem fB.app(h:Nat)(M L:Mem):fB h M (M++L):=fun i B aa _ _=>bY aa L
theorem fB.OQ{h a:Nat}{M:Mem}{R:List (List V)}{ver fz:Nat}(a9:M[a]? =some (.arr 14 R ver fz))(B:a1):fB h M (M.set a B):=fun i C aa _ az=>by
 by_cases hi:a=i
 . subst hi;rw[a9] at aa;cases aa;exact absurd rfl (az R ver fz)
 . rw[dv hi];exact aa
theorem fB.OR(h:Nat)(M:Mem)(B:a1):fB h M (M.set h B):=fun i C aa af _=>by
 rw[dv (gq af)];exact aa
theorem fB.qM{f:bp}{M:Mem}{h a ver:Nat}{c:Int}{l:List (aJ×Int)}{b6:List (List V)}(H:gM f M h a ver c l b6)(l':List (aJ×Int))(G:Mem):fB h M (ky f M a ver b6 l' G):=
 (fB.OQ H.a _).trans (fB.app _ _ _)
theorem fB.new{h i:Nat}{M N:Mem}(a:fB h M N)(hi:M.length<=i)(B:a1):fB h M (N.set i B):=fun k C aa af az=>by
 have:=(bo.1 aa).1;rw[dv (by omega)];exact a k C aa af az
theorem gM.uE{f:bp}{M:Mem}{h a ver:Nat}{c:Int}{l:List (aJ×Int)}{b6:List (List V)}(H:gM f M h a ver c l b6){i:Nat}(aa:i≠h)(af:i≠a)(B:a1):gM f (M.set i B) h a ver c l b6:=
 ⟨by rw[dv aa];exact H.h,by rw[dv af];exact H.a⟩
def yS:List V:=[.int .i64 0,.int .i64 0,.int .i64 0,.int .i64 0,.int .i64 0,.int .i64 0,.int .i64 0,.int .i64 0,.int .i64 0,.int .i64 0,.int .i64 0,.dE,.slice [] .nil]
theorem PO{f:bp}{M:Mem}{h a ver:Nat}{c:Int}{l:List (aJ×Int)}{b6:List (List V)}(H:gM f M h a ver c l b6):b9 au z5 [.ptr h 0] M (fun v ah=>v=.int .i64 l.length/\ah=M):=by
 have a8:=H.h;have l0:=fun n=>Ek (n:=n) H.a;refine hl Mk (by simp[xf]) ?_;simp only[hg];simp-implicitDefEqProofs (disch:=omega) only[go_sem,xf,e1,w4,a8,l0]
theorem aaS{f:bp}{M:Mem}{h a ver:Nat}{c:Int}{x:aJ×Int}{r:List (aJ×Int)}{b6:List (List V)}(H:gM f M h a ver c (x::r) b6):
 b9 au IC [.ptr h 0] M (fun v ah=>v=.tuple [.agg (x.1.row f),.bool true]/\∃G,ah=M++G):=by
 have vv:=fun L=>PO (H.app L);have a8:=fun L=>bY H.h L;have aS:=fun L=>ue (i:=0) (n:=(x::r).length) (bY H.a L) (by simp) (by simp);have a9:=fun L=>bY H.a L;have fY:(((x::r).map (d0 f)++b6))[0]? =some (d0 f x):=rfl;have KA:∀x:aJ×Int,(d0 f x).take 13=x.1.row f:=fun x=>rfl;have pR:∀l:aJ,(l.row f).take 13=l.row f:=fun _=>rfl;have gj:=fun L=>i1 M L;have kh:=fun L=>lj M L;have eS:=fun L=>eT M L;have kz:=fun L=>jM M L;have a_:decide (((x::r).length:Int)=0)=false:=decide_eq_false (by simp;omega);simp only[Int.ofNat_zero] at aS;refine hl SW (by simp[B4]) ?_;simp only[hg];generalize ov:x::r=l at*;simp-implicitDefEqProofs (disch:=omega) only[go_sem,B4,en];refine ho (vv _) ?_;simp-implicitDefEqProofs (disch:=omega) only[go_sem,a_,e1,a8,aS,a9,fY,pQ,KA,eS,kz,aJ.len,aJ.cell,AK,pR];exact⟨_,rfl⟩
theorem aNt{α:Type}{x y:α}{r:List α}(aE:(x::r)[r.length]? =some y):((((x::r).set 0 y).set r.length x).take r.length).Perm r:=by
 have ay:=O5 (l:=x::r) (i:=0) (k:=r.length) (x:=x) (y:=y) rfl aE;have ag:(((x::r).set 0 y).set r.length x).length=r.length+1:=by rw[eR,eR];rfl
 generalize aB:((x::r).set 0 y).set r.length x=l at ay ag⊢;have sM:l[r.length]? =some x:=by rw[<-aB,eB (by rw[eR];simp)]
 have ak:l.take r.length++[x]=l:=by
  calc l.take r.length++[x]=l.take (r.length+1):=by rw[iu,sM];rfl
   _=l:=g_ (by omega)
 rw[<-ak] at ay;exact((List.perm_append_singleton x _).symm.trans ay).cons_inv
theorem aaW{f:bp}{M:Mem}{h a ver:Nat}{c:Int}{x:aJ×Int}{r:List (aJ×Int)}{b6:List (List V)}(H:gM f M h a ver c (x::r) b6)(aj:(x::r).length<=1000000000000):
 b9 au DV [.ptr h 0] M (fun v ah=>v=.tuple [.agg (x.1.row f),.bool true]/\∃l' K3,gM f ah h a ver c l' K3/\l'.Perm r/\fB h M ah):=by
 obtain⟨y,aE⟩:∃y,(x::r)[r.length]? =some y:=⟨(x::r)[r.length]'(by simp),by simp⟩;have Nu:=aNt aE;have HX:=fun L=>aaS (H.app L);have fb:∀(K:Mem)(B:a1),(K++[B])[K.length]? =some B:=fun K B=>by simp
 have is:∀(K:Mem)(B X:a1),(K++[B]).set K.length X=K++[X]:=fun K B X=>by simp
 have hle:(x::r).length=r.length+1:=rfl;have mf:(((r.length+1:Nat):Int) -1)=(r.length:Int):=by omega
 have pm:h<M.length:=(bo.1 H.h).1;have aHH:a<M.length:=(bo.1 H.a).1;have pR:∀l:aJ,(l.row f).take 13=l.row f:=fun _=>rfl;refine hl SX (by simp[B5]) ?_;simp only[hg];simp-implicitDefEqProofs (disch:=omega) only[go_sem,B5];refine ew (HX _) ?_;rintro v _ ⟨rfl,G,rfl⟩;obtain⟨N,dc,K0,hj,cr⟩:∃N,N=(M++[a1.box yS])++G/\gM f N h a ver c (x::r) b6/\N[M.length]? =some (.box yS)/\fB h M N:=⟨_,rfl,(H.app _).app _,bY (fb M _) G,(fB.app h M _).trans (fB.app h _ _)⟩;rw[<-show N=(M++[a1.box [.int .i64 0,.int .i64 0,.int .i64 0,.int .i64 0,.int .i64 0,.int .i64 0,.int .i64 0,.int .i64 0,.int .i64 0,.int .i64 0,.int .i64 0,.dE,.slice [] .nil]])++G from dc];clear dc;simp-implicitDefEqProofs (disch:=omega) only[go_sem,fb,is,aJ.len,aJ.cell,AK];have aHn:M.length<N.length:=(bo.1 hj).1;generalize ap:N.length=j at aHn⊢;obtain⟨dW,dc,sk,hj,aQV,cr⟩:∃dW,dW=N++[a1.box (x.1.row f)]/\gM f dW h a ver c (x::r) b6/\dW[M.length]? =some (.box yS)/\dW[j]? =some (.box (x.1.row f))/\fB h M dW:=⟨_,rfl,K0.app _,bY hj _,by rw[<-ap];exact fb _ _,cr.trans (fB.app h _ _)⟩;rw[<-dc];clear dc;obtain⟨cZ,fc⟩:∃cZ,cZ=((x::r).set 0 y).set r.length x:=⟨_,rfl⟩;have Dh:cZ.length=r.length+1:=by rw[fc,eR,eR];rfl
 have sM:cZ[r.length]? =some x:=by rw[fc,eB (by rw[eR];simp)]
 have NF:cZ.take r.length++[x]=cZ:=by
  calc cZ.take r.length++[x]=cZ.take (r.length+1):=by rw[iu,sM];rfl
   _=cZ:=g_ (by omega)
 have sS:cZ.map (d0 f)++b6=(cZ.take r.length).map (d0 f)++(d0 f x::b6):=by
  conv=>lhs;rw[<-NF]
  simp
 have vF:=O6 sk (i:=0) (k:=r.length) rfl aE;rw[<-fc] at vF Nu;have h9:=sk.set (l':=cZ) (by rw[Dh];rfl);have p_:=cr.trans (fB.OQ sk.a (.arr 14 (cZ.map (d0 f)++b6) ver 0));have Ys:(dW.set a (.arr 14 (cZ.map (d0 f)++b6) ver 0))[M.length]? =some (.box yS):=by rw[dv (by omega)];exact hj
 have Yw:(dW.set a (.arr 14 (cZ.map (d0 f)++b6) ver 0))[j]? =some (.box (x.1.row f)):=by rw[dv (by omega)];exact aQV
 have Ut:=sk.h;have aL2:=fun n=>Ek (n:=n) sk.a;simp only[hle] at Ut;simp-implicitDefEqProofs (disch:=omega) only[go_sem,↓bm 10,↓bm 23,e1,Ut,aL2,mf];simp-implicitDefEqProofs (disch:=omega) only[go_sem,↓bm 12,↓bm 22];refine ew vF ?_;rintro v _ ⟨rfl,rfl⟩;generalize dW.set a (.arr 14 (cZ.map (d0 f)++b6) ver 0)=eF at h9 p_ Ys Yw⊢;have Uu:=h9.h;rw[Dh] at Uu;have OW:=WA (n:=r.length+1) (k:=r.length) h9.a (by rw[dz,eu,Dh];omega) (by omega);simp-implicitDefEqProofs (disch:=omega) only[go_sem,↓bm 14,↓bm 21,e1,Uu,OW];have gP:(cZ.take r.length).length=r.length:=by rw[iS];omega
 have lZ:gM f (eF.set h (.box [.dF kr [],.aZ a ver 0 r.length,.int .i64 c])) h a ver c (cZ.take r.length) (d0 f x::b6):=
  ⟨by rw[eB (bo.1 h9.h).1,gP],by rw[dv h9.ne,<-sS];exact h9.a⟩;have k8:=p_.trans (fB.OR h eF (.box [.dF kr [],.aZ a ver 0 r.length,.int .i64 c]));have Yt:(eF.set h (.box [.dF kr [],.aZ a ver 0 r.length,.int .i64 c]))[M.length]? =some (.box yS):=by rw[dv (by omega)];exact Ys
 have Yx:(eF.set h (.box [.dF kr [],.aZ a ver 0 r.length,.int .i64 c]))[j]? =some (.box (x.1.row f)):=by rw[dv (by omega)];exact Yw
 generalize eF.set h (.box [.dF kr [],.aZ a ver 0 r.length,.int .i64 c])=gE at lZ k8 Yt Yx⊢;have aKb:=aO4 lZ (by omega);simp-implicitDefEqProofs (disch:=omega) only[go_sem,↓bm 16,↓bm 20];refine ew aKb ?_;rintro v _ ⟨rfl,Eg,KZ,rfl,UR⟩;have PL:=lZ.qM UR.length_eq KZ;have aD:=fB.qM lZ Eg KZ;have Hs:=k8.trans aD;have Pz:=aD _ _ Yt (by omega) (by intro _ _ _ e;cases e);have Yy:=aD _ _ Yx (by omega) (by intro _ _ _ e;cases e);generalize ky f gE a ver (d0 f x::b6) Eg KZ=p0 at PL Hs Pz Yy⊢;have c8:∀X,(p0.set M.length X)[M.length]? =some X:=fun X=>eB (bo.1 Pz).1;have EE:g5 yS 0 (x.1.row f)=x.1.row f:=rfl;have aL_:yS.length=13:=rfl;simp-implicitDefEqProofs (disch:=omega) only[go_sem,↓bm 18,↓bm 19,Yy,Pz,c8,aJ.len,aJ.cell,aL_,EE,pR];exact⟨Eg,_,PL.uE (by omega) (by omega) _,UR.trans Nu,Hs.new (cH _) _⟩
end Go.aL.C
namespace Go.aL.C
open Go.aL
theorem aHE(n:Nat)(aK:n<=1000000000000):dN .quo .none (.int .i64 (n:Int)) (.int .i64 2)=some (.int .i64 ((n/2:Nat):Int)):=by
 rw[Lw _ _ _ _ (by omega)];have:Int.tdiv (n:Int) 2=((n/2:Nat):Int):=rfl;rw[this,n1 _ (by omega) (by omega)]
theorem WF{f:bp}{M:Mem}{h a ver:Nat}{c:Int}{l:List (aJ×Int)}{b6:List (List V)}(H:gM f M h a ver c l b6)(aj:l.length<=1000000000000)(aa:0<l.length)(Q:Exit->aI->Mem->Prop)
 (gw:∀l' G s,l'.Perm l->Q .normal s (ky f M a ver b6 l' G)):
 dn au QX Q [(0,.ptr h 0),(4,.int .i64 ((l.length -1:Nat):Int))] M:=by
 have jn:a<M.length:=(bo.1 H.a).1;simp-implicitDefEqProofs (disch:=omega) only[go_sem,↓bm 19,↓bm 20];refine lT (fun m vs N=>∃(i:Nat)(l':List (aJ×Int))(G:Mem),m=i/\vs=[.ptr h 0,.int .i64 i]/\N=ky f M a ver b6 l' G/\l'.Perm l/\i<l.length) (l.length -1)
  ⟨l.length -1,l,[],rfl,rfl,(PW H).symm,.refl _,by omega⟩ ?_;rintro i vs N ⟨_,l',G,rfl,rfl,rfl,ay,hi⟩;have er:=ay.length_eq;have gb:=H.qM er G;simp-implicitDefEqProofs (disch:=omega) only[go_sem];refine a5 (fun aT=>?_) (fun aT=>?_);rotate_left
 . simp-implicitDefEqProofs (disch:=omega) only[go_sem]
   exact gw l' G _ ay
 have a4:((i:Int) -1)=((i -1:Nat):Int):=by omega
 have bd:=aHE (i -1) (by omega);obtain⟨x,ad⟩:∃x,l'[i]? =some x:=⟨l'[i]'(by omega),by simp⟩;obtain⟨y,aE⟩:∃y,l'[(i -1)/2]? =some y:=⟨l'[(i -1)/2]'(by omega),by simp⟩;simp-implicitDefEqProofs (disch:=omega) only[go_sem,a4,bd];refine ew (Ls gb (by omega) (by omega)) ?_;rintro v _ ⟨⟨b,rfl⟩,oY,rfl⟩;rw[Lb];simp-implicitDefEqProofs (disch:=omega) only[go_sem];refine ck (fun a2=>?_) (fun a2=>?_);rotate_left
 . simp-implicitDefEqProofs (disch:=omega) only[go_sem]
   exact gw l' _ _ ay
 simp-implicitDefEqProofs (disch:=omega) only[go_sem,a4,bd];refine ew (O6 (H.qM er (G++oY)) ad aE) ?_;rintro v _ ⟨rfl,rfl⟩;rw[PV jn];simp-implicitDefEqProofs (disch:=omega) only[go_sem,a4,bd];exact uB ((i -1)/2) (by omega) ⟨(i -1)/2,_,_,rfl,rfl,rfl,(O5 ad aE).trans ay,by omega⟩
theorem aNA{f:bp}{M:Mem}{h a ver:Nat}{c:Int}{l:List (aJ×Int)}{b6:List (List V)}(H:gM f M h a ver c l b6)(e:aJ×Int)(aj:l.length<=1000000000000):
 dX false 14 128 (.aZ a ver 0 l.length) (.slice [d0 f e] .full) M=some (.aZ a (ver+1) 0 (l.length+1),M.set a (.arr 14 ((l++[e]).map (d0 f)) (ver+1) 0)):=by
 have aw:decide ((l.length+1)*256<=2^48)=true:=decide_eq_true (by omega);have an:((d0 f e).length==14)=true:=rfl;cases b6 with
 |nil=>
  have af:(l.length==(l.map (d0 f)++[]).length)=true:=by simp
  have az:(l.map (d0 f)++[]).length=l.length:=by simp
  simp only[dX,eK,fr,an,dC,gY,ee,beq_self_eq_true,cond_true,g0,H.a,az,eQ,Nat.reduceMul,aw];simp
 |cons q j=>
  have af:(l.length==(l.map (d0 f)++q::j).length)=false:=by simp
  have az:decide (l.length<=(l.map (d0 f)++q::j).length)=true:=decide_eq_true (by simp);simp only[dX,eK,fr,an,dC,gY,ee,beq_self_eq_true,cond_true,cond_false,g0,H.a,af,az,eQ,Bool.and_false,oS,Nat.reduceMul,aw,fR,decide_true];simp
theorem aaZ{f:bp}{M:Mem}{h a ver:Nat}{c:Int}{l:List (aJ×Int)}{b6:List (List V)}(H:gM f M h a ver c l b6)(x:aJ)(aj:l.length+1<=1000000000000):
 b9 au z6 [.ptr h 0,.agg (x.row f)] M (fun v ah=>v=.tuple []/\∃cK l',gM f ah h a (ver+1) cK l' []/\l'.Perm (l++[(x,c)])/\fB h M ah):=by
 have fb:∀(K:Mem)(B:a1),(K++[B])[K.length]? =some B:=fun K B=>by simp
 have pm:h<M.length:=(bo.1 H.h).1;have aHH:a<M.length:=(bo.1 H.a).1;have a8:=fun L=>bY H.h L;have eC:=fun L=>aNA (H.app L) (x,c) (by omega);have EE:g5 [.int .i64 0,.int .i64 0,.int .i64 0,.int .i64 0,.int .i64 0,.int .i64 0,.int .i64 0,.int .i64 0,.int .i64 0,.int .i64 0,.int .i64 0,.dE,.slice [] .nil,.int .i64 0] 0 (x.row f)=x.row f++[.int .i64 0]:=rfl;have Ow:(x.row f++[V.int .i64 0]).length=14:=rfl;have cX:(x.row f++[V.int .i64 0]).set 13 (.int .i64 c)=d0 f (x,c):=rfl;have O_:∀x,(d0 f x).take 14=d0 f x:=fun _=>rfl;obtain⟨dW,rr,ce,dS,cr⟩:∃dW,dW=(M++[a1.box (x.row f)]).set a (.arr 14 ((l++[(x,c)]).map (d0 f)) (ver+1) 0)/\dW[h]? =some (.box [.dF kr [],.aZ a ver 0 l.length,.int .i64 c])/\dW[a]? =some (.arr 14 ((l++[(x,c)]).map (d0 f)) (ver+1) 0)/\fB h M dW:=
  ⟨_,rfl,by rw[dv H.ne.symm];exact a8 _,eB (by rw[dz];omega),(fB.app h M _).trans (fB.OQ (bY H.a _) _)⟩;have bI:=rr.symm;have Nc:=(bo.1 ce).1;have ft:∀X,(dW.set h X)[h]? =some X:=fun X=>eB Nc;have fl:∀X Y,(dW.set h X).set h Y=dW.set h Y:=fun X Y=>List.set_set ..;have ij:∀X,(dW.set h X)[a]? =some (.arr 14 ((l++[(x,c)]).map (d0 f)) (ver+1) 0):=fun X=>by rw[dv H.ne];exact dS
 have a4:(((l.length+1:Nat):Int) -1)=((l.length:Nat):Int):=by omega
 have pR:∀l:aJ,(l.row f).take 13=l.row f:=fun _=>rfl;refine hl Ml (by simp[xg]) ?_;simp only[hg];simp-implicitDefEqProofs (disch:=omega) only[go_sem,xg,e1,w4,aJ.len,fb,a8,pR,EE,Ow,cX,Oz,pQ,OJ,O_,eC,bI,ce,ft,fl,ij,a4];have lZ:gM f (dW.set h (.box [.dF kr [],.aZ a (ver+1) 0 (l.length+1),.int .i64 (IntKind.i64.wrap (c+1))])) h a (ver+1) (IntKind.i64.wrap (c+1)) (l++[(x,c)]) []:=
  ⟨by rw[eB (bo.1 ce).1,dz];rfl,by rw[dv H.ne,fA];exact dS⟩;have k8:=cr.trans (fB.OR h dW (.box [.dF kr [],.aZ a (ver+1) 0 (l.length+1),.int .i64 (IntKind.i64.wrap (c+1))]));generalize dW.set h (.box [.dF kr [],.aZ a (ver+1) 0 (l.length+1),.int .i64 (IntKind.i64.wrap (c+1))])=gE at lZ k8⊢;rw[show l.length=(l++[(x,c)]).length -1 by simp];refine WF lZ (by simp;omega) (by simp) _ fun l' G s ay=>?_;simp-implicitDefEqProofs (disch:=omega) only[go_sem];exact⟨_,l',lZ.qM ay.length_eq G,ay,k8.trans (fB.qM lZ l' G)⟩
theorem aa0{f:bp}{M:Mem}{h:Nat}{c:Int}(H:M[h]? =some (.box [.dF kr [],.slice [] .nil,.int .i64 c]))(x:aJ):
 b9 au z6 [.ptr h 0,.agg (x.row f)] M (fun v ah=>v=.tuple []/\∃a ver cK,gM f ah h a ver cK [(x,c)] []/\fB h M ah):=by
 have fb:∀(K:Mem)(B:a1),(K++[B])[K.length]? =some B:=fun K B=>by simp
 have pm:h<M.length:=(bo.1 H).1;have a8:=fun L=>bY H L;have eC:∀K:Mem,dX false 14 128 (.slice [] .nil) (.slice [d0 f (x,c)] .full) K=some (.aZ K.length 0 0 1,K++[.arr 14 [d0 f (x,c)] 0 0]):=fun K=>by
  simp only[dX,eK,fr,pQ,beq_self_eq_true,cond_true,g0];rfl
 have EE:g5 [.int .i64 0,.int .i64 0,.int .i64 0,.int .i64 0,.int .i64 0,.int .i64 0,.int .i64 0,.int .i64 0,.int .i64 0,.int .i64 0,.int .i64 0,.dE,.slice [] .nil,.int .i64 0] 0 (x.row f)=x.row f++[.int .i64 0]:=rfl;have Ow:(x.row f++[V.int .i64 0]).length=14:=rfl;have cX:(x.row f++[V.int .i64 0]).set 13 (.int .i64 c)=d0 f (x,c):=rfl;have O_:∀x,(d0 f x).take 14=d0 f x:=fun _=>rfl;have pR:∀l:aJ,(l.row f).take 13=l.row f:=fun _=>rfl;have zA:(M++[a1.box (x.row f)]).length=M.length+1:=by simp
 obtain⟨dW,rr,ce,dS,cr⟩:∃dW,dW=(M++[a1.box (x.row f)])++[.arr 14 [d0 f (x,c)] 0 0]/\dW[h]? =some (.box [.dF kr [],.slice [] .nil,.int .i64 c])/\dW[M.length+1]? =some (.arr 14 [d0 f (x,c)] 0 0)/\fB h M dW:=
  ⟨_,rfl,bY (a8 _) _,by rw[<-zA];exact fb _ _,(fB.app h M _).trans (fB.app h _ _)⟩;have bI:(M++[a1.box (x.row f)])++[.arr 14 [d0 f (x,c)] 0 0]=dW:=rr.symm;have Nc:=(bo.1 ce).1;have ft:∀X,(dW.set h X)[h]? =some X:=fun X=>eB Nc;have fl:∀X Y,(dW.set h X).set h Y=dW.set h Y:=fun X Y=>List.set_set ..;have ij:∀X,(dW.set h X)[M.length+1]? =some (.arr 14 [d0 f (x,c)] 0 0):=fun X=>by rw[dv (by omega)];exact dS
 have a4:(((1:Nat):Int) -1)=(([(x,c)].length -1:Nat):Int):=rfl;refine hl Ml (by simp[xg]) ?_;simp only[hg];simp-implicitDefEqProofs (disch:=omega) only[go_sem,xg,e1,w4,aJ.len,fb,a8,pR,EE,Ow,cX,Oz,pQ,OJ,O_,eC,zA,bI,ce,ft,fl,ij];have lZ:gM f (dW.set h (.box [.dF kr [],.aZ (M.length+1) 0 0 1,.int .i64 (IntKind.i64.wrap (c+1))])) h (M.length+1) 0 (IntKind.i64.wrap (c+1)) [(x,c)] []:=
  ⟨ft _,ij _⟩;have k8:=cr.trans (fB.OR h dW (.box [.dF kr [],.aZ (M.length+1) 0 0 1,.int .i64 (IntKind.i64.wrap (c+1))]));generalize dW.set h (.box [.dF kr [],.aZ (M.length+1) 0 0 1,.int .i64 (IntKind.i64.wrap (c+1))])=gE at lZ k8⊢;rw[a4];refine WF lZ (by simp) (by simp) _ fun l' G s ay=>?_;simp-implicitDefEqProofs (disch:=omega) only[go_sem];have ag:l'=[(x,c)]:=List.perm_singleton.1 ay;subst ag;exact⟨_,_,_,lZ.qM rfl G,k8.trans (fB.qM lZ _ G)⟩
def mU(f:bp)(M:Mem)(h:Nat)(Q:List aJ):Prop:=∃c,(M[h]? =some (.box [.dF kr [],.slice [] .nil,.int .i64 c])/\Q=[])∨
 ∃a ver l b6,gM f M h a ver c l b6/\(l.map (·.1)).Perm Q
theorem mU.app{f:bp}{M:Mem}{h:Nat}{Q:List aJ}(H:mU f M h Q)(L:Mem):mU f (M++L) h Q:=by
 obtain⟨c,⟨aa,af⟩|⟨a,ver,l,b6,aa,af⟩⟩:=H
 . exact⟨c,.inl ⟨bY aa L,af⟩⟩
 . exact⟨c,.inr ⟨a,ver,l,b6,aa.app L,af⟩⟩
theorem mU.fN{f:bp}{M ah:Mem}{h:Nat}{Q:List aJ}(H:mU f M h Q)(aa:ah[h]? =M[h]?)(af:∀(i:Nat) R ver,M[i]? =some (a1.arr 14 R ver 0)->ah[i]? =M[i]?):mU f ah h Q:=by
 obtain⟨c,⟨bI,ce⟩|⟨a,ver,l,b6,bI,ce⟩⟩:=H
 . exact⟨c,.inl ⟨aa.trans bI,ce⟩⟩
 . exact⟨c,.inr ⟨a,ver,l,b6,⟨aa.trans bI.h,(af a _ ver bI.a).trans bI.a⟩,ce⟩⟩
theorem aa2{f:bp}{M:Mem}{h:Nat}{Q:List aJ}(H:mU f M h Q):b9 au z5 [.ptr h 0] M (fun v ah=>v=.int .i64 Q.length/\ah=M):=by
 obtain⟨c,⟨bI,rfl⟩|⟨a,ver,l,b6,bI,ce⟩⟩:=H
 . refine hl Mk (by simp[xf]) ?_
   simp only[hg];simp-implicitDefEqProofs (disch:=omega) only[go_sem,xf,e1,w4,bI]
 . rw[show Q.length=l.length by rw[<-ce.length_eq,eu]]
   exact PO bI
theorem aa4{f:bp}{M:Mem}{h:Nat}{Q:List aJ}(H:mU f M h Q)(a8:0<Q.length)(aj:Q.length<=1000000000000):
 b9 au DV [.ptr h 0] M (fun v ah=>∃x cO,v=.tuple [.agg (x.row f),.bool true]/\mU f ah h cO/\(x::cO).Perm Q/\fB h M ah):=by
 obtain⟨c,⟨bI,rfl⟩|⟨a,ver,l,b6,bI,ce⟩⟩:=H
 . cases a8
 have ag:=ce.length_eq;rw[eu] at ag;cases l with
 |nil=>simp at ag;omega
 |cons x r=>
  refine b9.mono (aaW bI (by omega)) ?_;rintro v ah ⟨rfl,l',K3,gb,ay,cr⟩;exact⟨x.1,l'.map (·.1),rfl,⟨c,.inr ⟨a,ver,l',K3,gb,.refl _⟩⟩,((ay.map (fun y=>y.1)).cons x.1).trans (by simpa using ce),cr⟩
theorem aa5{f:bp}{M:Mem}{h:Nat}{Q:List aJ}(H:mU f M h Q)(x:aJ)(aj:Q.length+1<=1000000000000):
 b9 au z6 [.ptr h 0,.agg (x.row f)] M (fun v ah=>v=.tuple []/\mU f ah h (Q++[x])/\fB h M ah):=by
 obtain⟨c,⟨bI,rfl⟩|⟨a,ver,l,b6,bI,ce⟩⟩:=H
 . refine b9.mono (aa0 bI x) ?_
   rintro v ah ⟨rfl,a,ver,cK,gb,cr⟩;exact⟨rfl,⟨cK,.inr ⟨a,ver,_,_,gb,.refl _⟩⟩,cr⟩
 . have ag:=ce.length_eq
   rw[eu] at ag;refine b9.mono (aaZ bI x (by omega)) ?_;rintro v ah ⟨rfl,cK,l',gb,ay,cr⟩;refine⟨rfl,⟨cK,.inr ⟨a,_,l',_,gb,?_⟩⟩,cr⟩;refine(ay.map (·.1)).trans ?_;rw[List.map_append];exact ce.append_right _
theorem aa3{M:Mem}(f:bp):b9 au IE [.dF kr []] M (fun v ah=>v=.ptr M.length 0/\∃B,ah=M++[B]/\mU f ah M.length []):=by
 have a4:dN .eql .fn (.dF kr []) .gz=some (.bool false):=rfl;refine hl S3 (by simp[B9]) ?_;simp only[hg];simp-implicitDefEqProofs (disch:=omega) only[go_sem,B9,a4];exact⟨_,rfl,0,.inl ⟨by rw[eT];rfl,rfl⟩⟩
end Go.aL.C
namespace Go.aL.C
open Go.aL
noncomputable instance:DecidableEq Place:=fun _ _=>Classical.propDecidable _
def oy(p:Place):V:=.agg p.row
theorem NT:kd (.cells [.int,.int,.int,.int,.int,.int,.int,.int]) oy:=by
 refine⟨fun _=>rfl,fun x y=>?_⟩;have e:decide (x=y)=(decide (x.kind=y.kind)&&(decide (x.stop=y.stop)&&(decide (x.run=y.run)&&(decide (x.cm=y.cm)&&(decide (x.cY.cf=y.cY.cf)&&(decide (x.cY.cJ=y.cY.cJ)&&(decide (x.cY.gf=y.cY.gf)&&(decide (x.cY.eW=y.cY.eW)&&true)))))))):=by
  obtain⟨k,s,r,c,⟨a,b,z,m⟩⟩:=x;obtain⟨dk,aO,fO,cK,⟨dt,iW,Py,e6⟩⟩:=y;rw[Bool.eq_iff_iff];simp only[cc,decide_eq_true_eq,Place.mk.injEq,bf.mk.injEq,and_true]
 rw[e];rfl
section
variable{α:Type}[DecidableEq α]{c:fv}{cL:α->V}
theorem VN(h:kd c cL){x:α}:∀(l:List (α×V))(n i:Nat)(v:V),l[i]? =some (x,v)->(∀(k:Nat)(e:α×V),k<i->l[k]? =some e->e.1≠x)->hO c (cL x) (cI cL l) n=some (n+i)
 |[],_,_,_,hi,_=>by simp at hi
 |e::l,n,0,v,hi,_=>by
  have he:e=(x,v):=by simpa using hi
  subst he;show(bif (h1 c (cL x) (cL x)).getD false then some n else _)=_;rw[h.eq,decide_eq_true rfl];rfl
 |e::l,n,i+1,v,hi,aK=>by
  have aa:decide (x=e.1)=false:=decide_eq_false fun q=>aK 0 e (by omega) rfl q.symm;show(bif (h1 c (cL x) (cL e.1)).getD false then _ else hO c (cL x) (cI cL l) (n+1))=_;rw[VN h l (n+1) i v (by simpa using hi) fun k fx ao he=>aK (k+1) fx (by omega) (by simpa using he),h.eq,aa];show some (n+1+i)=some (n+(i+1));rw[show n+1+i=n+(i+1) by omega]
theorem VO(h:kd c cL){x:α}:∀(l:List (α×V))(n:Nat),(∀e∈l,e.1≠x)->hO c (cL x) (cI cL l) n=none
 |[],_,_=>rfl
 |e::l,n,aK=>by
  have aa:decide (x=e.1)=false:=decide_eq_false fun q=>aK e (by simp) q.symm;show(bif (h1 c (cL x) (cL e.1)).getD false then _ else hO c (cL x) (cI cL l) (n+1))=_;rw[VO h l (n+1) fun q aG=>aK q (by simp[aG]),h.eq,aa];rfl
theorem aEc(h:kd c cL){x:α}{l:List (α×V)}{i m:Nat}{v z:V}{M:Mem}(a7:M[m]? =some (.map (cI cL l)))(hi:l[i]? =some (x,v))(aK:∀(k:Nat)(e:α×V),k<i->l[k]? =some e->e.1≠x):
 ul c z (.map m) (cL x) M=some (.tuple [v,.int .i64 i],M):=by
 have aB:(cI cL l)[i]? =some (cL x,v):=by rw[cI,gX,hi];rfl
 obtain⟨aa,af⟩:=bo.1 aB;have ak:(cI cL l).set i (cL x,v)=cI cL l:=by rw[<-af,List.set_getElem_self]
 obtain⟨az,bh⟩:=bo.1 a7;have hK:M.set m (.map (cI cL l))=M:=by rw[<-bh,List.set_getElem_self]
 simp only[ul,a7,h.key,Ap h,eQ,cond_true,VN h l 0 i v hi aK,ee,aB,lY,ak,hK]
theorem aEd(h:kd c cL){x:α}{l:List (α×V)}{m:Nat}{z:V}{M:Mem}(a7:M[m]? =some (.map (cI cL l)))(aK:∀e∈l,e.1≠x):
 ul c z (.map m) (cL x) M=some (.tuple [z,.int .i64 l.length],M.set m (.map (cI cL (l++[(x,z)])))):=by
 simp only[ul,a7,h.key,Ap h,eQ,cond_true,VO h l 0 aK];simp[cI]
theorem RX{x:α}{l:List (α×V)}{i m:Nat}{v w:V}{M:Mem}(a7:M[m]? =some (.map (cI cL l)))(hi:l[i]? =some (x,v))(hw:w.iK=true):
 w2 (.map m) (.int .i64 (i:Int)) w M=some (.undef,M.set m (.map (cI cL (l.set i (x,w))))):=by
 have aB:(cI cL l)[i]? =some (cL x,v):=by rw[cI,gX,hi];rfl
 have a8:decide (0<=(i:Int))=true:=decide_eq_true (by omega);simp only[w2,a7,a8,hw,eQ,cond_true,kU,aB,lY];simp[cI,List.map_set]
end
noncomputable def fS (A:List aJ) (p:Place):List aJ:=A.filter fun l=>decide (l.place=p)
theorem ts(A:List aJ)(l:aJ)(p:Place):fS (A++[l]) p=if l.place=p then fS A p++[l] else fS A p:=by
 rw[fS,List.filter_append,fS];by_cases h:l.place=p
 . rw[if_pos h];simp[h]
 . rw[if_neg h];simp[h]
def YL(f:bp)(M:Mem)(A:List aJ)(p:Place)(v:V):Prop:=∃b ver,v=.aZ b ver 0 (fS A p).length/\M[b]? =some (.arr 13 ((fS A p).map (aJ.row f)) ver 0)/\0<(fS A p).length
def q5(M:Mem)(v:V)(O:List de):Prop:=(v=.slice [] .nil/\O=[])∨∃b ver,v=.aZ b ver 0 O.length/\M[b]? =some (.arr 7 (O.map de.row) ver 0)/\0<O.length
def iY(n:Net)(q:Query)(m h:Nat)(o:V):a1:=.box [.slice (n.stops.map Stop.row) n.mN,.slice (n.fP.map fo.row) n.rc,.slice (n.runs.map bM.row) n.pS,.slice (n.ch.map dG.row) n.lc,.slice (n.paths.map Path.row) n.qI,
 .slice (n.dD.cR.map ds.row) n.dD.tag,.int .i64 n.dD.lF,.int .i64 n.dD.within,.int .i64 n.dD.pF,
 .int .i64 q.src,.int .i64 q.dst,.int .i64 q.time,.bool q.back,.int .i64 q.b5,.int .i64 q.walk,.bool q.free,.bool q.wP,.int .i64 q.eW,.bool q.Bj,.map m,.ptr h 0,o]
structure si(aM:bp)(M:Mem)(m:Nat)(A:List aJ)(E:List (Place×V)):Prop where
 map:M[m]? =some (.map (cI oy E))
 Er:(E.map (·.1)).Nodup
 q9:∀e∈E,YL aM M A e.1 e.2
 all:∀l∈A,l.place∈E.map (·.1)
structure cF(n:Net)(q:Query)(aM:bp)(f h:Nat)(A Q:List aJ)(O:List de)(M:Mem):Prop where
 box:∃m o E,M[f]? =some (iY n q m h o)/\q5 M o O/\si aM M m A E
 qN:mU aM M h Q
def eb(f h:Nat)(M ah:Mem):Prop:=∀(i:Nat)(cs:List V),M[i]? =some (.box cs)->i≠f->i≠h->ah[i]? =some (.box cs)
theorem eb.refl(f h:Nat)(M:Mem):eb f h M M:=fun _ _ h _ _=>h
theorem eb.trans{f h:Nat}{M ah mr:Mem}(a:eb f h M ah)(b:eb f h ah mr):eb f h M mr:=fun i B aa af az=>b i B (a i B aa af az) af az
theorem eb.app(f h:Nat)(M L:Mem):eb f h M (M++L):=fun i B aa _ _=>bY aa L
theorem eb.J0{f h:Nat}{M ah:Mem}(a:fB h M ah):eb f h M ah:=fun i cs aa _ az=>a i _ aa az (by intro _ _ _ e;cases e)
theorem eb.len{f h:Nat}{M ah:Mem}(a:eb f h M ah):True:=trivial
def Zq(M ah:Mem):Prop:=∀(i:Nat)(B:a1),M[i]? =some B->(∀cs,B≠.box cs)->ah[i]? =some B
theorem q5.fN{M ah:Mem}{v:V}{O:List de}(H:q5 M v O)(aK:∀(i:Nat) R ver,M[i]? =some (a1.arr 7 R ver 0)->ah[i]? =some (a1.arr 7 R ver 0)):q5 ah v O:=by
 rcases H with h|⟨b,ver,aa,af,az⟩
 . exact .inl h
 . exact .inr ⟨b,ver,aa,aK _ _ _ af,az⟩
theorem si.fN{aM:bp}{M ah:Mem}{m:Nat}{A:List aJ}{E:List (Place×V)}(H:si aM M m A E)(aa:ah[m]? =M[m]?)(aK:∀(i:Nat) R ver,M[i]? =some (a1.arr 13 R ver 0)->ah[i]? =some (a1.arr 13 R ver 0)):si aM ah m A E:=
 ⟨aa.trans H.map,H.Er,fun e he=>by
   obtain⟨b,ver,bI,ce,dS⟩:=H.q9 e he;exact⟨b,ver,bI,aK _ _ _ ce,dS⟩,H.all⟩
theorem cF.fN{n:Net}{q:Query}{aM:bp}{f h:Nat}{A Q:List aJ}{O:List de}{M ah:Mem}(H:cF n q aM f h A Q O M)(aD:ah[f]? =M[f]?)(cn:ah[h]? =M[h]?)(aK:Zq M ah):cF n q aM f h A Q O ah:=by
 obtain⟨⟨m,o,E,aa,af,az⟩,bh⟩:=H;refine⟨⟨m,o,E,aD.trans aa,af.fN fun i R ver hi=>aK _ _ hi (by intro _ e;cases e),az.fN ?_ fun i R ver hi=>aK _ _ hi (by intro _ e;cases e)⟩,bh.fN cn fun i R ver hi=>?_⟩
 . rw[aK _ _ az.map (by intro _ e;cases e),az.map]
 . rw[aK _ _ hi (by intro _ e;cases e),hi]
theorem cF.app{n:Net}{q:Query}{aM:bp}{f h:Nat}{A Q:List aJ}{O:List de}{M:Mem}(H:cF n q aM f h A Q O M)(L:Mem):cF n q aM f h A Q O (M++L):=by
 obtain⟨m,o,E,aa,_⟩:=H.box;have cn:h<M.length:=by
  obtain⟨c,⟨bI,_⟩|⟨a,ver,l,b6,bI,_⟩⟩:=H.qN
  . exact(bo.1 bI).1
  . exact(bo.1 bI.h).1
 exact H.fN (by rw[bY aa L,aa]) (by rw[gp cn]) fun i B hi _=>bY hi L
theorem cF.uE{n:Net}{q:Query}{aM:bp}{f h:Nat}{A Q:List aJ}{O:List de}{M:Mem}(H:cF n q aM f h A Q O M){i:Nat}{cs:List V}(hi:M[i]? =some (.box cs))(aa:i≠f)(af:i≠h)(B:a1):cF n q aM f h A Q O (M.set i B):=
 H.fN (by rw[dv aa]) (by rw[dv af]) fun k C ao ar=>by
  rw[dv fun e=>by subst e;rw[hi] at ao;cases ao;exact ar cs rfl];exact ao
theorem eb.uE{f h i:Nat}{M N:Mem}(a:eb f h M N)(hi:M.length<=i)(B:a1):eb f h M (N.set i B):=fun k C aa af az=>by
 have:=(bo.1 aa).1;rw[dv (by omega)];exact a k C aa af az
theorem cF.vb{n:Net}{q:Query}{aM:bp}{f h:Nat}{A Q:List aJ}{O:List de}{M:Mem}(H:cF n q aM f h A Q O M):f≠h/\f<M.length/\h<M.length:=by
 obtain⟨m,o,E,aa,_⟩:=H.box;have aD:=(bo.1 aa).1;obtain⟨c,⟨bI,_⟩|⟨a,ver,l,b6,bI,_⟩⟩:=H.qN
 . exact⟨(fun e=>by rw[e,bI] at aa;cases aa),aD,(bo.1 bI).1⟩
 . exact⟨(fun e=>by rw[e,bI.h] at aa;cases aa),aD,(bo.1 bI.h).1⟩
end Go.aL.C
namespace Go.aL.C
open Go.aL
def hk(l:aJ):Prop:=(∀r∈l.base,r.wf)/\l.base.length<=8
def ti(a b:aJ):Prop:=a.time<=b.time/\a.b5<=b.b5/\a.walk<=b.walk
theorem ab_(aM:bp)(aD:aM.wf)(b7:aM.ia)(a b:aJ)(a9:hk a)(aj:hk b):bT au I9 [.agg (a.row aM),.agg (b.row aM)] (fun v=>∃t:Bool,v=.bool t/\(t=true->ti a b)):=by
 have aw:=YX aM aD b7 a.base b.base a9.1 a9.2 aj.1 aj.2;have lH:∀l:aJ,(l.row aM)[8]? =some (.int .i64 l.time):=fun _=>rfl;have tI:∀l:aJ,(l.row aM)[9]? =some (.int .i64 l.b5):=fun _=>rfl;have Hu:∀l:aJ,(l.row aM)[10]? =some (.int .i64 l.walk):=fun _=>rfl;have Hv:∀l:aJ,(l.row aM)[11]? =some (gN aM l.base):=fun _=>rfl;refine bP Tr (by simp[CC]) ?_;simp-implicitDefEqProofs (disch:=omega) only[go_sem,CC,aJ.len,lH];refine a5 (fun aa=>?_) (fun aa=>?_);rotate_left
 . simp-implicitDefEqProofs (disch:=omega) only[go_sem]
   exact⟨false,rfl,by simp⟩
 simp-implicitDefEqProofs (disch:=omega) only[go_sem,tI];refine a5 (fun af=>?_) (fun af=>?_);rotate_left
 . simp-implicitDefEqProofs (disch:=omega) only[go_sem]
   exact⟨false,rfl,by simp⟩
 simp-implicitDefEqProofs (disch:=omega) only[go_sem,Hu];refine a5 (fun az=>?_) (fun az=>?_);rotate_left
 . simp-implicitDefEqProofs (disch:=omega) only[go_sem]
   exact⟨false,rfl,by simp⟩
 simp-implicitDefEqProofs (disch:=omega) only[go_sem,Hv];refine fw aw ?_ (by simp only[cT,Ht];rfl);rintro v ⟨t,rfl⟩;simp-implicitDefEqProofs (disch:=omega) only[go_sem];exact⟨t,rfl,fun _=>⟨aa,af,az⟩⟩
def A8(aM:bp)(M:Mem)(A:List aJ)(p:Place)(v:V):Prop:=(v=.slice [] .nil/\fS A p=[])∨∃b ver,v=.aZ b ver 0 (fS A p).length/\M[b]? =some (.arr 13 ((fS A p).map (aJ.row aM)) ver 0)
theorem TP{α:Type}[DecidableEq α]{x:α}:∀{E:List (α×V)}{v:V},fZ x E=some v->(x,v)∈E
 |[],v,h=>by simp[fZ] at h
 |e::E,v,h=>by
  simp only[fZ,List.find?_cons] at h;by_cases ad:x=e.1
  . rw[decide_eq_true ad] at h
    simp only[lY,aW] at h;rw[<-h,ad];exact pV ..
  . rw[decide_eq_false ad] at h
    exact n3 _ (TP h)
theorem TQ{α:Type}[DecidableEq α]{x:α}:∀{E:List (α×V)},fZ x E=none->∀e∈E,e.1≠x
 |[],_,e,he=>by cases he
 |e::E,h,q,aG=>by
  simp only[fZ,List.find?_cons] at h;by_cases ad:x=e.1
  . rw[decide_eq_true ad] at h;cases h
  . rw[decide_eq_false ad] at h
    rcases jt.1 aG with rfl|aG
    . exact fun e=>ad e.symm
    . exact TQ h q aG
theorem si.look{aM:bp}{M:Mem}{m:Nat}{A:List aJ}{E:List (Place×V)}(H:si aM M m A E)(p:Place):∃v,A8 aM M A p v/\
 ∀L,oA (.cells [.int,.int,.int,.int,.int,.int,.int,.int]) [.slice [] .nil] false false (.map m) (oy p) (M++L)=some v:=by
 have ag:=At NT (.slice [] .nil) false p E;cases aB:fZ p E with
 |none=>
  rw[aB] at ag;refine⟨.slice [] .nil,.inl ⟨rfl,?_⟩,fun L=>by simp only[N7,bY H.map L,ag]⟩;rw[fS,List.filter_eq_nil_iff];intro l gP ay;obtain⟨e,he,qq⟩:=lr.1 (H.all l gP);exact TQ aB e he (qq.trans (of_decide_eq_true ay))
 |some v=>
  rw[aB] at ag;obtain⟨b,ver,bI,ce,_⟩:=H.q9 _ (TP aB);exact⟨v,.inr ⟨b,ver,bI,ce⟩,fun L=>by simp only[N7,bY H.map L,ag]⟩
def Ql:V->Nat->V
 |.aZ b ver _ _,i=>.fq b ver i 0
 |_,_=>.undef
theorem A8.len{aM:bp}{M:Mem}{A:List aJ}{p:Place}{v:V}(H:A8 aM M A p v)(L:Mem):iA v (M++L)=some (.int .i64 (fS A p).length):=by
 rcases H with⟨rfl,h⟩|⟨b,ver,rfl,h⟩
 . rw[h];rfl
 . exact Ek (bY h L)
theorem A8.aS{aM:bp}{M:Mem}{A:List aJ}{p:Place}{v:V}(H:A8 aM M A p v){i:Nat}{o:aJ}(hi:(fS A p)[i]? =some o)(L:Mem):
 iz 13 v (.int .i64 (i:Int)) (M++L)=some (Ql v i)/\g4 13 true (Ql v i) (M++L)=some (.agg (o.row aM)):=by
 rcases H with⟨rfl,h⟩|⟨b,ver,rfl,h⟩
 . rw[h] at hi;simp at hi
 . have ag:=(bo.1 hi).1
   exact⟨ue (bY h L) ag (by simp),x7 (bY h L) (by rw[gX,hi];rfl) (aJ.len aM o)⟩
theorem Lp{A:List aJ}{p:Place}{o:aJ}(h:o∈fS A p):o∈A/\o.place=p:=by
 obtain⟨aa,af⟩:=oU.1 h;exact⟨aa,of_decide_eq_true af⟩
theorem abm{n:Net}{q:Query}{aM:bp}{f h:Nat}{A Q:List aJ}{O:List de}{M:Mem}(H:cF n q aM f h A Q O M)(aD:aM.wf)(b7:aM.ia)(el:∀o∈A,hk o)(l:aJ)(ag:hk l)(aj:A.length<=1000000000000)(R:V->Mem->Prop)
 (xR:∀G o,o∈A->o.place=l.place->ti o l->R (.tuple []) (M++G))
 (qo:∀G,dn au LC (o8 tE.results (qz R)) [(0,.ptr f 0),(3,.ptr M.length 0)] (M++.box (l.row aM)::G)):
 hg au tE [.ptr f 0,.agg (l.row aM)] M R:=by
 obtain⟨m,o,E,aa,af,az⟩:=H.box;obtain⟨v,aq,UH⟩:=az.look l.place;have c2:=fun L=>bY aa L;have fb:∀(K:Mem)(B:a1),(K++[B])[K.length]? =some B:=fun K B=>by simp
 have is:∀(K:Mem)(B X:a1),(K++[B]).set K.length X=K++[X]:=fun K B X=>by simp
 have Pa:(l.row aM).take 8=l.place.row:=rfl;have De:V.agg l.place.row=oy l.place:=rfl;simp only[iY] at c2;simp only[hg];have vv:=aq.len;have mB:(fS A l.place).length<=A.length:=List.length_filter_le _ _;simp-implicitDefEqProofs (disch:=omega) only[go_sem,tE,e1,aJ.len,fb,c2,Pa,De,UH,vv];generalize MM:fS A l.place=QE at*;refine ej QE (fun i vs N=>∃G,vs=[.ptr f 0,.ptr M.length 0,v,.int .i64 QE.length,.int .i64 i]/\N=M++.box (l.row aM)::G) ⟨[],rfl,rfl⟩ ?_ ?_;rotate_left
 . rintro vs N ⟨G,rfl,rfl⟩
   simp-implicitDefEqProofs (disch:=omega) only[go_sem,db];exact qo G
 rintro i o vs N aA hi ba ⟨G,rfl,rfl⟩;obtain⟨UP,jX⟩:=Lp (A:=A) (p:=l.place) (MM▸dQ aA);have vr:=fun L=>(aq.aS (by rw[MM];exact aA) L).1;have tY:=fun L=>(aq.aS (by rw[MM];exact aA) L).2;have aHR:=ab_ aM aD b7 o l (el o UP) ag;have fY:∀L:Mem,(M++.box (l.row aM)::L)[M.length]? =some (.box (l.row aM)):=fun L=>by rw[eT];rfl
 have a4:∀(B:a1),(M++.box (l.row aM)::(G++[B]))[M.length+(G.length+1)]? =some B:=fun B=>by rw[i1];simp
 have bd:∀(B X:a1),(M++.box (l.row aM)::(G++[B])).set (M.length+(G.length+1)) X=M++.box (l.row aM)::(G++[X]):=fun B X=>by rw[lj];simp
 have pR:∀l:aJ,(l.row aM).take 13=l.row aM:=fun _=>rfl;simp-implicitDefEqProofs (disch:=omega) only[go_sem,ba,vr,tY,en,fY,a4,bd,aJ.len,aJ.cell,AK,pR];refine fw aHR ?_ (by simp only[cT,V.under,aJ.under];rfl);rintro w ⟨t,rfl,aV⟩;simp-implicitDefEqProofs (disch:=omega) only[go_sem];refine ck (fun g=>?_) (fun g=>?_)
 . simp-implicitDefEqProofs (disch:=omega) only[go_sem]
   exact xR _ o UP jX (aV g)
 . simp-implicitDefEqProofs (disch:=omega) only[go_sem]
   exact cS hi ⟨_,rfl,rfl⟩
end Go.aL.C
namespace Go.aL.C
open Go.aL
theorem aOx{aM:bp}{a b:aJ}(h:a.row aM=b.row aM):a.place=b.place:=by
 obtain⟨⟨k,s,r,c,⟨x,y,z,m⟩⟩,_⟩:=a;obtain⟨⟨dk,aO,fO,cK,⟨dh,hh,Py,e6⟩⟩,_⟩:=b;simp only[aJ.row,List.cons.injEq,V.int.injEq,true_and] at h;obtain⟨aa,af,az,bh,bC,ca,dY,cp,_⟩:=h;subst aa af az bh bC ca dY cp;rfl
theorem ab7{aM:bp}{M:Mem}{A:List aJ}{p p':Place}{b:Nat}{ver lk:Nat}(aa:M[b]? =some (.arr 13 ((fS A p).map (aJ.row aM)) ver 0))(af:M[b]? =some (.arr 13 ((fS A p').map (aJ.row aM)) lk 0))(az:0<(fS A p).length):p=p':=by
 rw[aa] at af;have he:(fS A p).map (aJ.row aM)=(fS A p').map (aJ.row aM):=by simp only[aW,a1.arr.injEq] at af;exact af.2.1
 obtain⟨a,a9⟩:∃a,(fS A p)[0]? =some a:=⟨(fS A p)[0],by simp⟩;have ag:(fS A p).length=(fS A p').length:=by have:=congrArg List.length he;simpa using this
 obtain⟨c,ar⟩:∃c,(fS A p')[0]? =some c:=⟨(fS A p')[0]'(by omega),by simp⟩;have a8:=congrArg (·[0]?) he;simp only[gX,a9,ar,lY,aW] at a8;rw[<-(Lp (dQ a9)).2,<-(Lp (dQ ar)).2,aOx a8]
def wA(m:Nat)(M ah:Mem):Prop:=∀(i:Nat)(B:a1),M[i]? =some B->i≠m->(∀R ver fz,B≠.arr 13 R ver fz)->ah[i]? =some B
theorem si.put{aM:bp}{M:Mem}{m:Nat}{A:List aJ}{E:List (Place×V)}(H:si aM M m A E)(l:aJ)(aj:A.length+1<=1000000000000):
 ∃ae i E9 w E8 wG KW,ul (.cells [.int,.int,.int,.int,.int,.int,.int,.int]) (.slice [] .nil) (.map m) (oy l.place) M=some (.tuple [ae,.int .i64 i],E9)/\
  dX false 13 120 ae (.slice [l.row aM] .full) E9=some (w,E8)/\w2 (.map m) (.int .i64 i) w E8=some (.undef,wG)/\si aM wG m (A++[l]) KW/\wA m M wG/\wA m M E9/\wA m M E8:=by
 have vx:m<M.length:=(bo.1 H.map).1;cases tS:E.findIdx? (fun e=>decide (e.1=l.place)) with
 |none=>
  have qo:∀e∈E,e.1≠l.place:=fun e he=>by
   rw[List.findIdx?_eq_none_iff] at tS;simpa using tS e he
  have MO:fS A l.place=[]:=by
   rw[fS,List.filter_eq_nil_iff];intro o aA ay;obtain⟨e,he,qq⟩:=lr.1 (H.all o aA);exact qo e he (qq.trans (of_decide_eq_true ay))
  have eU:=aEd (z:=.slice [] .nil) NT H.map qo;have UK:(M.set m (.map (cI oy (E++[(l.place,.slice [] .nil)]))))[m]? =some (.map (cI oy (E++[(l.place,.slice [] .nil)]))):=eB vx;have R9:∀X,wA m M (M.set m X):=fun X i B hi aa _=>by rw[dv (gq aa)];exact hi
  have aJf:(M.set m (.map (cI oy (E++[(l.place,.slice [] .nil)])))).length=M.length:=eR;have FQ:=R9 (.map (cI oy (E++[(l.place,.slice [] .nil)])));have Vo:∀(i:Nat)(B:a1),i≠m->M[i]? =some B->(M.set m (.map (cI oy (E++[(l.place,.slice [] .nil)]))))[i]? =some B:=fun i B aa hi=>by rw[dv (gq aa)];exact hi
  generalize M.set m (.map (cI oy (E++[(l.place,.slice [] .nil)])))=N at eU UK aJf FQ Vo;have i4:dX false 13 120 (.slice [] .nil) (.slice [l.row aM] .full) N=some (.aZ N.length 0 0 1,N++[.arr 13 [l.row aM] 0 0]):=by
   simp only[dX,eK,fr,aJ.len,beq_self_eq_true,cond_true,g0];rfl
  have Nm:=bY UK [.arr 13 [l.row aM] 0 0];have aI2:(E++[(l.place,V.slice [] .nil)])[E.length]? =some (l.place,.slice [] .nil):=by simp
  have zX:=RX (w:=.aZ N.length 0 0 1) Nm aI2 rfl;have aHa:(E++[(l.place,V.slice [] .nil)]).set E.length (l.place,.aZ N.length 0 0 1)=E++[(l.place,.aZ N.length 0 0 1)]:=by
   rw[List.set_append,if_neg (by omega),mS];rfl
  rw[aHa] at zX;have Dk:m<(N++[a1.arr 13 [l.row aM] 0 0]).length:=by rw[dz];omega
  have fin:∀(i:Nat)(B:a1),i≠m->N[i]? =some B->((N++[a1.arr 13 [l.row aM] 0 0]).set m (.map (cI oy (E++[(l.place,.aZ N.length 0 0 1)]))))[i]? =some B:=fun i B aa hi=>by
   rw[dv (gq aa)];exact bY hi _
  refine⟨_,_,_,_,_,_,_,eU,i4,zX,⟨eB Dk,?_,?_,?_⟩,fun i B hi aa af=>fin i B aa (FQ i B hi aa af),FQ,fun i B hi aa af=>bY (FQ i B hi aa af) _⟩
  . rw[List.map_append,List.nodup_append]
    refine⟨H.Er,by simp,?_⟩;intro a a9 c ar;obtain⟨e,he,rfl⟩:=lr.1 a9;have:c=l.place:=by simpa using ar
    rw[this];exact qo e he
  . intro e he
    rcases g9.1 he with he|he
    . obtain⟨b,ver,bI,ce,dS⟩:=H.q9 e he
      have cD:l.place≠e.1:=fun q=>qo e he q.symm;have xt:b≠m:=fun q=>by rw[q,H.map] at ce;cases ce
      refine⟨b,ver,?_,?_,?_⟩
      . rw[ts,if_neg cD];exact bI
      . rw[ts,if_neg cD];exact fin b _ xt (Vo b _ xt ce)
      . rw[ts,if_neg cD];exact dS
    . have:e=(l.place,.aZ N.length 0 0 1):=by simpa using he
      subst this;refine⟨N.length,0,?_,?_,?_⟩
      . rw[ts,if_pos rfl,MO];rfl
      . rw[ts,if_pos rfl,MO,dv (by omega),eT];rfl
      . rw[ts,if_pos rfl,MO];exact Nat.zero_lt_one
  . intro o aA
    rw[List.map_append];rcases g9.1 aA with aA|aA
    . exact List.mem_append_left _ (H.all o aA)
    . rw[gZ.1 aA];exact List.mem_append_right _ (by simp)
 |some i=>
  obtain⟨km,pn,C1⟩:=List.findIdx?_eq_some_iff_getElem.1 tS;obtain⟨⟨p,v⟩,he⟩:∃e,E[i]? =some e:=⟨E[i],by simp⟩;have ay:p=l.place:=by
   rw[(bo.1 he).2] at pn;exact of_decide_eq_true pn
  subst ay;have UM:=dQ he;obtain⟨b,ver,bI,ce,dS⟩:=H.q9 _ UM;simp only at bI ce dS;subst bI;have xt:b≠m:=fun q=>by rw[q,H.map] at ce;cases ce
  have mB:b<M.length:=(bo.1 ce).1;have aK:∀(k:Nat)(e:Place×V),k<i->E[k]? =some e->e.1≠l.place:=fun k e ao aJb=>by
   have:=C1 k ao;rw[(bo.1 aJb).2] at this;simpa using this
  have eU:=aEc (z:=.slice [] .nil) NT H.map he aK;have dg:(fS A l.place).length<=A.length:=List.length_filter_le _ _;have i4:=sp (bytes:=120) (r:=l.row aM) ce (eu _) (aJ.len aM l) (by omega);have mF:(fS A l.place).map (aJ.row aM)++[l.row aM]=(fS (A++[l]) l.place).map (aJ.row aM):=by rw[ts,if_pos rfl];simp
  have UO:(fS A l.place).length+1=(fS (A++[l]) l.place).length:=by rw[ts,if_pos rfl];simp
  rw[mF,UO] at i4;have Nm:(M.set b (.arr 13 ((fS (A++[l]) l.place).map (aJ.row aM)) (ver+1) 0))[m]? =some (.map (cI oy E)):=by rw[dv xt];exact H.map
  have zX:=RX (w:=.aZ b (ver+1) 0 (fS (A++[l]) l.place).length) Nm he rfl;have L7:wA m M (M.set b (.arr 13 ((fS (A++[l]) l.place).map (aJ.row aM)) (ver+1) 0)):=fun j B ap aa af=>by
   rw[dv fun q=>by subst q;rw[ce] at ap;cases ap;exact af _ _ _ rfl];exact ap
  have UE:(E.set i (l.place,V.aZ b (ver+1) 0 (fS (A++[l]) l.place).length)).map (·.1)=E.map (·.1):=by
   rw[List.map_set];have:(E.map (·.1))[i]? =some l.place:=by rw[gX,he];rfl
   obtain⟨dx,dm⟩:=bo.1 this;rw[<-dm,List.set_getElem_self]
  refine⟨_,_,_,_,_,_,_,eU,i4,zX,⟨eB (by rw[eR];exact vx),by rw[UE];exact H.Er,?_,?_⟩,fun j B ap aa af=>by rw[dv (gq aa)];exact L7 j B ap aa af,fun j B ap _ _=>ap,L7⟩
  . intro e sK
    obtain⟨j,ap⟩:=ir sK;by_cases eE:i=j
    . subst eE
      rw[eB km] at ap;cases ap;refine⟨b,ver+1,rfl,?_,by rw[<-UO];omega⟩;rw[dv (gq xt),eB mB]
    . rw[dv eE] at ap
      have aIf:=dQ ap;have cD:l.place≠e.1:=fun q=>by
       have v2:(E.map (·.1))[j]? =some l.place:=by rw[gX,ap];exact congrArg some q.symm
       have v4:(E.map (·.1))[i]? =some l.place:=by rw[gX,he];rfl
       obtain⟨bW,b8⟩:=bo.1 v2;obtain⟨eX,g1⟩:=bo.1 v4;rcases Nat.lt_or_gt_of_ne eE with bx|bx
       . exact List.pairwise_iff_getElem.1 H.Er i j eX bW bx (g1.trans b8.symm)
       . exact List.pairwise_iff_getElem.1 H.Er j i bW eX bx (b8.trans g1.symm)
      have ML:fS (A++[l]) e.1=fS A e.1:=by rw[ts,if_neg cD]
      obtain⟨iW,lk,dx,dm,hc⟩:=H.q9 e aIf;have zE:b≠iW:=fun q=>by
       subst q;exact cD (ab7 ce dm dS)
      have aHN:iW≠m:=fun q=>by rw[q,H.map] at dm;cases dm
      refine⟨iW,lk,?_,?_,?_⟩
      . rw[ML];exact dx
      . rw[ML,dv (gq aHN),dv zE];exact dm
      . rw[ML];exact hc
  . intro o aA
    rw[UE];rcases g9.1 aA with aA|aA
    . exact H.all o aA
    . rw[gZ.1 aA]
      exact lr.2 ⟨_,UM,rfl⟩
end Go.aL.C
namespace Go.aL.C
open Go.aL
theorem wA.box{m:Nat}{M ah:Mem}{E:List (V×V)}(a:wA m M ah)(hm:M[m]? =some (.map E)){i:Nat}{cs:List V}(hi:M[i]? =some (.box cs)):ah[i]? =some (.box cs):=
 a i _ hi (fun e=>by rw[e,hm] at hi;cases hi) (by intro _ _ _ e;cases e)
theorem abn{n:Net}{q:Query}{aM:bp}{f h:Nat}{A Q:List aJ}{O:List de}{N:Mem}(H:cF n q aM f h A Q O N)(l:aJ){e5:Nat}(ag:N[e5]? =some (.box (l.row aM)))(el:A.length+1<=1000000000000)(gw:Q.length+1<=1000000000000)(R:V->Mem->Prop)
 (fI:∀du,cF n q aM f h (A++[l]) (Q++[l]) O du->eb f h N du->R (.tuple []) du):
 dn au LC (o8 tE.results (qz R)) [(0,.ptr f 0),(3,.ptr e5 0)] N:=by
 obtain⟨⟨m,o,E,aa,af,az⟩,bh⟩:=H;obtain⟨ae,i,E9,w,E8,wG,KW,aD4,aDS,aDT,bU,xb,R9,L7⟩:=az.put l el;have a7:=az.map;have aJc:=xb.box a7 ag;have Ud:=xb.box a7 aa;have Hz:mU aM wG h Q:=by
  refine bh.fN ?_ fun j R ver ap=>?_
  . obtain⟨c,⟨bI,_⟩|⟨a,ver,l,b6,bI,_⟩⟩:=bh
    . rw[xb.box a7 bI,bI]
    . rw[xb.box a7 bI.h,bI.h]
  . rw[xb j _ ap (fun e=>by rw[e,a7] at ap;cases ap) (by intro _ _ _ e;cases e),ap]
 have aG4:q5 wG o O:=af.fN fun j R ver ap=>xb j _ ap (fun e=>by rw[e,a7] at ap;cases ap) (by intro _ _ _ e;cases e);have xJ:=aa5 Hz l gw;have hr:eb f h N wG:=fun j cs ap _ _=>xb.box a7 ap;have Pa:(l.row aM).take 8=l.place.row:=rfl;have pR:(l.row aM).take 13=l.row aM:=rfl;have De:V.agg l.place.row=oy l.place:=rfl;have qe:=aa;simp only[iY] at qe;have vf:=Ud;have a_:∀c:Int,g5 [.int .i64 0,.int .i64 0,.int .i64 0,.int .i64 0,.int .i64 0,.int .i64 0,.int .i64 0,.int .i64 0,.int .i64 0,.int .i64 0,.int .i64 0,.dE,.slice [] .nil] 0 (l.row aM)=l.row aM:=fun _=>rfl;simp-implicitDefEqProofs (disch:=omega) only[go_sem,↓bm 22,↓bm 24,↓bm 25,e1,qe,ag,aJ.len,aJ.pure,Pa,pR,De,AK,aD4,aDS,aDT,vf,aJc];refine ew xJ ?_;rintro v du ⟨rfl,rK,cr⟩;simp-implicitDefEqProofs (disch:=omega) only[go_sem,tE];refine fI du ⟨⟨m,o,KW,cr _ _ Ud (fun e=>?_) (by intro _ _ _ e;cases e),aG4.fN fun j R ver ap=>cr j _ ap (fun e=>?_) (by intro _ _ _ e;cases e),bU.fN ?_ fun j R ver ap=>cr j _ ap (fun e=>?_) (by intro _ _ _ e;cases e)⟩,rK⟩ (hr.trans (eb.J0 cr))
 . obtain⟨c,⟨bI,_⟩|⟨a,ver,l,b6,bI,_⟩⟩:=bh
   . rw[e,bI] at aa;cases aa
   . rw[e,bI.h] at aa;cases aa
 . obtain⟨c,⟨bI,_⟩|⟨a,ver,l,b6,bI,_⟩⟩:=Hz
   . rw[e,bI] at ap;cases ap
   . rw[e,bI.h] at ap;cases ap
 . rw[cr _ _ bU.map (fun e=>?_) (by intro _ _ _ e;cases e),bU.map]
   obtain⟨c,⟨bI,_⟩|⟨a,ver,l,b6,bI,_⟩⟩:=Hz
   . rw[<-e,bU.map] at bI;cases bI
   . have ce:=bI.h;rw[<-e,bU.map] at ce;cases ce
 . obtain⟨c,⟨bI,_⟩|⟨a,ver,l,b6,bI,_⟩⟩:=Hz
   . rw[e,bI] at ap;cases ap
   . rw[e,bI.h] at ap;cases ap
end Go.aL.C
namespace Go.aL.C
open Go.aL
def n4(A Q:List aJ)(l:aJ)(c6 cO:List aJ):Prop:=(c6=A/\cO=Q/\∃o∈A,o.place=l.place/\ti o l)∨(c6=A++[l]/\cO=Q++[l])
def gh:List aJ->List aJ->List aJ->List aJ->List aJ->Prop
 |A,Q,[],c6,cO=>c6=A/\cO=Q
 |A,Q,l::ls,c6,cO=>∃ea eo,n4 A Q l ea eo/\gh ea eo ls c6 cO
theorem n4.len{A Q c6 cO:List aJ}{l:aJ}(h:n4 A Q l c6 cO):c6.length<=A.length+1/\cO.length<=Q.length+1:=by
 rcases h with⟨rfl,rfl,_⟩|⟨rfl,rfl⟩
 . exact⟨by omega,by omega⟩
 . exact⟨by simp,by simp⟩
theorem n4.all{A Q c6 cO:List aJ}{l:aJ}(h:n4 A Q l c6 cO){P:aJ->Prop}(el:∀o∈A,P o)(ag:P l):∀o∈c6,P o:=by
 rcases h with⟨rfl,rfl,_⟩|⟨rfl,rfl⟩
 . exact el
 . intro o aA
   rcases g9.1 aA with aA|aA
   . exact el o aA
   . rw[gZ.1 aA];exact ag
theorem n4.Kk{A Q c6 cO:List aJ}{l:aJ}(h:n4 A Q l c6 cO){P:aJ->Prop}(gw:∀o∈Q,P o)(ag:P l):∀o∈cO,P o:=by
 rcases h with⟨rfl,rfl,_⟩|⟨rfl,rfl⟩
 . exact gw
 . intro o aA
   rcases g9.1 aA with aA|aA
   . exact gw o aA
   . rw[gZ.1 aA];exact ag
theorem gh.len:∀{ls A Q c6 cO:List aJ},gh A Q ls c6 cO->c6.length<=A.length+ls.length/\cO.length<=Q.length+ls.length
 |[],A,Q,c6,cO,h=>by obtain⟨rfl,rfl⟩:=h;exact⟨cH _,cH _⟩
 |l::ls,A,Q,c6,cO,⟨ea,eo,aa,af⟩=>by
  have a:=aa.len;have b:=gh.len af;simp only[dC];omega
theorem gh.all{P:aJ->Prop}:∀{ls A Q c6 cO:List aJ},gh A Q ls c6 cO->(∀o∈A,P o)->(∀o∈ls,P o)->∀o∈c6,P o
 |[],_,_,_,_,h,el,_=>by obtain⟨rfl,rfl⟩:=h;exact el
 |l::ls,_,_,_,_,⟨_,_,aa,af⟩,el,ag=>gh.all af (aa.all el (ag l (pV ..))) fun o aA=>ag o (n3 _ aA)
theorem gh.Kk{P:aJ->Prop}:∀{ls A Q c6 cO:List aJ},gh A Q ls c6 cO->(∀o∈Q,P o)->(∀o∈ls,P o)->∀o∈cO,P o
 |[],_,_,_,_,h,gw,_=>by obtain⟨rfl,rfl⟩:=h;exact gw
 |l::ls,_,_,_,_,⟨_,_,aa,af⟩,gw,ag=>gh.Kk af (aa.Kk gw (ag l (pV ..))) fun o aA=>ag o (n3 _ aA)
theorem gh.app:∀{ls V_ A Q ea eo c6 cO:List aJ},gh A Q ls ea eo->gh ea eo V_ c6 cO->gh A Q (ls++V_) c6 cO
 |[],_,_,_,_,_,_,_,h,k=>by obtain⟨rfl,rfl⟩:=h;exact k
 |_::_,_,_,_,_,_,_,_,⟨yU,y6,aa,af⟩,k=>⟨yU,y6,aa,gh.app af k⟩
theorem gh.one{A Q c6 cO:List aJ}{l:aJ}(h:n4 A Q l c6 cO):gh A Q [l] c6 cO:=⟨c6,cO,h,rfl,rfl⟩
theorem OM{n:Net}{q:Query}{aM:bp}{f h:Nat}{A Q:List aJ}{O:List de}{M:Mem}(H:cF n q aM f h A Q O M)(aD:aM.wf)(b7:aM.ia)(el:∀o∈A,hk o)(l:aJ)(ag:hk l)(aj:A.length+1<=1000000000000)(gw:Q.length+1<=1000000000000):
 b9 au Ac [.ptr f 0,.agg (l.row aM)] M (fun v ah=>v=.tuple []/\eb f h M ah/\∃c6 cO,cF n q aM f h c6 cO O ah/\n4 A Q l c6 cO):=by
 refine hl Tt (by simp[tE]) ?_;refine abm H aD b7 el l ag (by omega) _ (fun G o aa af az=>⟨rfl,eb.app f h M G,A,Q,H.app G,.inl ⟨rfl,rfl,o,aa,af,az⟩⟩) fun G=>?_;refine abn (H.app _) l (by rw[eT];rfl) aj gw _ fun du dc cr=>?_;exact⟨rfl,(eb.app f h M _).trans cr,_,_,dc,.inr ⟨rfl,rfl⟩⟩
theorem Pv(a3:List cd)(c:c4)(x:cd)(ag:a3.length<=1000):bT au Ae [.slice (a3.map cd.row) c,.agg x.row] (fun v=>v=.slice ((a3++[x]).map cd.row) .cx):=by
 refine bP TF (by simp[CP]) ?_;have pr:∀(zero:List V)(M:Mem),m8 zero 9 72 (.int .i64 0) (.int .i64 ((a3.length:Int)+1)) M=some (.aZ M.length 0 0 0,M++[.arr 9 [] 0 0]):=fun zero M=>by
  have bW:decide ((0:Int)<=0)=true:=rfl;have b8:decide ((0:Int)<=(a3.length:Int)+1)=true:=decide_eq_true (by omega);have cN:decide (((a3.length:Int)+1)*((72:Nat):Int)<=2^48)=true:=decide_eq_true (by omega);have dl:decide ((a3.length:Int)+1<2^62)=true:=decide_eq_true (by omega);simp only[m8,bW,b8,cN,dl,eQ,cond_true];rfl
 have C7:decide (a3.length*144<=2^48)=true:=decide_eq_true (by omega);have k_:decide ((a3.length+1)*144<=2^48)=true:=decide_eq_true (by omega);have cn:=vk (f:=cd.row) (n:=9) (fun _=>rfl) a3;have xp:∀B:a1,dX false 9 72 (.aZ 1 0 0 0) (.slice (a3.map cd.row) c) [B,.arr 9 [] 0 0]=some (.aZ 1 1 0 a3.length,[B,.arr 9 (a3.map cd.row) 1 0]):=fun B=>by
  simp only[Qy,cn,cond_true,List.getElem?_cons_succ,ji,beq_self_eq_true,gY,eQ,ee,eu,Nat.reduceMul,C7,List.nil_append];rfl
 have ve:∀B:a1,dX false 9 72 (.aZ 1 1 0 a3.length) (.slice [x.row] .full) [B,.arr 9 (a3.map cd.row) 1 0]=some (.aZ 1 2 0 (a3.length+1),[B,.arr 9 ((a3++[x]).map cd.row) 2 0]):=fun B=>by
  rw[List.map_append];exact sp rfl (eu _) rfl (by omega)
 have aV:((a3++[x]).map cd.row).take (a3.length+1)=(a3++[x]).map cd.row:=g_ (by simp);have hle:decide (a3.length+1<=((a3++[x]).map cd.row).length)=true:=decide_eq_true (by simp);simp only[cd.row] at ve;simp-implicitDefEqProofs (disch:=omega) only[go_sem,CP,cd.row,pr,xp,ve];rw[aV]
def aNa(n:Net)(q:Query)(l:aJ):de:=⟨l.a3,.cx,(lD n q l.a3).1,(lD n q l.a3).2.1,.cx⟩
def tB(n:Net)(q:Query)(l:aJ):List de:=if(lD n q l.a3).2.2=0 then[aNa n q l] else[]
theorem q5.put{M:Mem}{v:V}{O:List de}(H:q5 M v O)(o:de)(aj:O.length+1<=1000000000000):∃b ver ah,dX false 7 88 v (.slice [o.row] .full) M=some (.aZ b ver 0 (O.length+1),ah)/\q5 ah (.aZ b ver 0 (O.length+1)) (O++[o])/\
 ∀(i:Nat)(B:a1),M[i]? =some B->(∀R ver fz,B≠.arr 7 R ver fz)->ah[i]? =some B:=by
 rcases H with⟨rfl,rfl⟩|⟨b,ver,rfl,af,az⟩
 . refine⟨_,_,_,?_,.inr ⟨M.length,0,rfl,eT M [.arr 7 [o.row] 0 0],Nat.zero_lt_one⟩,fun i B aa _=>bY aa _⟩
   have ag:(o.row.length==7)=true:=rfl;simp only[dX,eK,fr,ag,cond_true,g0];rfl
 . have eC:=sp (bytes:=88) (r:=o.row) af (eu _) rfl (by omega)
   refine⟨_,_,_,eC,.inr ⟨b,ver+1,by rw[dz];rfl,?_,by simp⟩,fun i B aa bU=>?_⟩
   . rw[eB (bo.1 af).1,List.map_append];rfl
   . rw[dv fun e=>by subst e;rw[af] at aa;cases aa;exact bU _ _ _ rfl];exact aa
def KR:cd:=⟨false,0,0,0,0,0,0,0,false⟩
theorem aOH{n:Net}{q:Query}{aM:bp}{f h:Nat}{A Q:List aJ}{O:List de}{M:Mem}(H:cF n q aM f h A Q O M)(aK:n.wf)(ok:f4 n)(l:aJ)(ag:l.a3.length<=1000)(hw:∀x∈l.a3,x.wf)(aj:O.length+1<=1000000000000):
 b9 au xZ [.ptr f 0,.agg (l.row aM)] M (fun v ah=>v=.tuple []/\eb f h M ah/\cF n q aM f h A Q (O++tB n q l) ah):=by
 obtain⟨⟨m,o,E,aa,af,az⟩,bh⟩:=H;have aD:=(bo.1 aa).1;have qu:=Pv l.a3 l.tag KR ag;have sI:=YT n q l.a3 .cx aK ok ag hw;have eA:∀N,hf 9 (.slice ((l.a3++[KR]).map cd.row) .cx) none (some (.int .i64 (l.a3.length:Nat))) none N=some (.slice (l.a3.map cd.row) .cx):=fun N=>by
  rw[aPa 9 _ _ _ _ _ (by omega) (by simp;omega) (vk (f:=cd.row) (fun _=>rfl) _)];simp[ns]
 have qa:(l.row aM)[12]? =some (.slice (l.a3.map cd.row) l.tag):=rfl;have cz:=fun L=>bY aa L;have fW:=fun L=>eT M L;have eX:=fun L=>i1 M L;have s0:=fun L=>jM M L;have s1:=fun L=>lj M L;simp only[iY] at cz;simp only[Net.row,Query.row] at sI;simp only[KR,cd.row] at qu;refine hl Tx (by simp[CH]) ?_;simp only[hg];simp-implicitDefEqProofs (disch:=omega) only[go_sem,CH,↓bm 11,aJ.len,fW,qa];first|refine b1 (qu) ?_|refine bV (qu) ?_
 simp only[KR] at eA;simp-implicitDefEqProofs (disch:=omega) only[go_sem,fW,eX,s1,en,qa,eA];refine⟨⟨bT.call qu rfl fun x ad _=>⟨ad,rfl⟩,fun h=>by cases h⟩,?_⟩;have Dc:tB n q l=if(lD n q l.a3).2.2=0 then[⟨l.a3,.cx,(lD n q l.a3).1,(lD n q l.a3).2.1,.cx⟩] else[]:=rfl
 rw[Dc];generalize lD n q l.a3=r at sI⊢;simp-implicitDefEqProofs (disch:=omega) only[go_sem,↓bm 5,↓bm 10,e1,cz,eX];first|refine b1 (sI) ?_|refine bV (sI) ?_
 simp only[Bn,n6.row] at sI;simp-implicitDefEqProofs (disch:=omega) only[go_sem,e1,cz,eX,s1,en,Bn,n6.row];refine⟨⟨bT.call sI rfl fun x ad _=>⟨ad,rfl⟩,fun h=>by cases h⟩,?_⟩;simp-implicitDefEqProofs (disch:=omega) only[go_sem,↓bm 9];refine a5 (fun g=>?_) (fun g=>?_);rotate_left
 . simp-implicitDefEqProofs (disch:=omega) only[go_sem]
   rw[if_neg g,fA];exact⟨eb.app f h M _,(cF.app ⟨⟨m,o,E,aa,af,az⟩,bh⟩ _)⟩
 rw[if_pos g];have i5:FA r=.cx:=if_pos g;rw[i5];obtain⟨N,dc⟩:∃N,N=M++[a1.box (l.row aM),.box [.slice (l.a3.map cd.row) .cx],.box [.int .i64 r.1.cf,.int .i64 r.1.cJ,.int .i64 r.1.b5,.int .i64 r.1.xc,.int .i64 r.1.walk]]:=⟨_,rfl⟩;rw[<-dc];have v2:N[M.length+1]? =some (.box [.slice (l.a3.map cd.row) .cx]):=by rw[dc,eX];rfl
 have v4:N[M.length+2]? =some (.box [.int .i64 r.1.cf,.int .i64 r.1.cJ,.int .i64 r.1.b5,.int .i64 r.1.xc,.int .i64 r.1.walk]):=by rw[dc,eX];rfl
 have yk:N[f]? =some (iY n q m h o):=by rw[dc];exact bY aa _
 have Mp:eb f h M N:=by rw[dc];exact eb.app f h M _
 have aHp:q5 N o O:=af.fN fun i R ver hi=>by rw[dc];exact bY hi _
 have Mz:si aM N m A E:=az.fN (by rw[dc,bY az.map,az.map]) fun i R ver hi=>by rw[dc];exact bY hi _
 have T2:mU aM N h Q:=by rw[dc];exact bh.app _
 clear dc cz fW eX s0 s1;obtain⟨aRX,aRY,du,eC,aHo,cr⟩:=aHp.put ⟨l.a3,.cx,r.1,r.2.1,.cx⟩ aj;have nM:=cr _ _ yk (by intro _ _ _ e;cases e);simp only[iY] at yk nM;simp only[de.row] at eC;have g3:f<du.length:=(bo.1 nM).1;simp-implicitDefEqProofs (disch:=omega) only[go_sem,↓bm 7,e1,yk,v2,v4,eC,nM];have aGN:eb f h N du:=fun i cs hi _ _=>cr i _ hi (by intro _ _ _ e;cases e);refine⟨Mp.trans (aGN.trans fun i cs hi aI3 _=>by rw[dv (gq aI3)];exact hi),⟨m,_,E,eB g3,aHo.fN fun i R ver hi=>?_,Mz.fN ?_ fun i R ver hi=>?_⟩,T2.fN ?_ fun i R ver hi=>?_⟩
 . rw[dv (fun e=>by subst e;rw[nM] at hi;cases hi)];exact hi
 . have hm:=cr _ _ Mz.map (by intro _ _ _ e;cases e)
   rw[dv (fun e=>by subst e;rw[nM] at hm;cases hm),hm,Mz.map]
 . have mE:=cr _ _ hi (by intro _ _ _ e;cases e)
   rw[dv (fun e=>by subst e;rw[nM] at mE;cases mE)];exact mE
 . obtain⟨c,⟨bI,_⟩|⟨a,ver,l,b6,bI,_⟩⟩:=T2
   . have hm:=cr _ _ bI (by intro _ _ _ e;cases e)
     rw[dv (fun e=>by subst e;rw[nM] at hm;cases hm),hm,bI]
   . have hm:=cr _ _ bI.h (by intro _ _ _ e;cases e)
     rw[dv (fun e=>by subst e;rw[nM] at hm;cases hm),hm,bI.h]
 . have mE:=cr _ _ hi (by intro _ _ _ e;cases e)
   rw[dv (fun e=>by subst e;rw[nM] at mE;cases mE),mE,hi]
end Go.aL.C
namespace Go.aL.C
open Go.aL
def wk(n:Net)(i k:Int):Bool:=n.ch.any fun x=>x.stay&&(decide (x.src=i)&&decide (x.h5=k))
def bf.kx(r:bf)(z:Int):bf:={r with gf:=qH .i64 r.gf ((2^z.toNat:Nat):Int)}
def bf.mode(r:bf)(z:Int):bf:={r with eW:=qH .i64 r.eW ((2^z.toNat:Nat):Int)}
def bf.at(n:Net)(cY:bf)(c:bG):bf:={cY.kx (sg n c.stop) with cJ:=c.cJ}
def uA(i b:Nat)(stay:Bool)(B c:bG)(k:Nat):cd:=⟨true,i,b,k,B.stop,c.stop,B.cf,c.cJ,stay⟩
def nf(l:aJ)(i b:Nat)(stay:Bool)(B c:bG)(k:Nat)(cY:bf):aJ:=
 {l with place:=⟨1,c.stop,i,k,cY⟩,time:=c.cJ,a3:=l.a3++[uA i b stay B c k],tag:=.cx}
def nY(n:Net)(l:aJ)(i b:Nat)(stay:Bool)(B:bG):List bG->Nat->bf->List aJ
 |[],_,_=>[]
 |c::cs,k,cY=>(if c.fC||wk n i k then[nf l i b stay B c k (cY.at n c)] else[])++nY n l i b stay B cs (k+1) (cY.at n c)
def uz(n:Net)(r:bM)(B:bG)(cY:bf):bf:=(cY.mode (Ep n r.ik)).kx (sg n B.stop)
def ng(n:Net)(l:aJ)(i b:Nat)(stay:Bool)(cY:bf):List aJ:=match n.runs[i]? with
 |some r=>match r.calls[b]? with
  |some B=>nY n l i b stay B (r.calls.drop (b+1)) (b+1) (uz n r B cY)
  |none=>[]
 |none=>[]
def k0(M N:Mem):Prop:=∃G,N=M++G
theorem k0.refl(M:Mem):k0 M M:=⟨[],by simp⟩
theorem k0.app{M N:Mem}(h:k0 M N)(L:Mem):k0 M (N++L):=by
 obtain⟨G,rfl⟩:=h;exact⟨G++L,en ..⟩
theorem aPo{n:Net}{q:Query}{aM:bp}{f h:Nat}{A Q:List aJ}{O:List de}{M:Mem}(H:cF n q aM f h A Q O M)(ag:n.ch.length<=100000)(i k:Int):
 b9 au Jf [.ptr f 0,.int .i64 i,.int .i64 k] M (fun v ah=>v=.bool (wk n i k)/\k0 M ah):=by
 obtain⟨m,o,E,aa,af,az⟩:=H.box;have cz:=fun L=>bY aa L;have aj:=aa;simp only[iY] at cz aj;have fb:∀(K:Mem)(B:a1),(K++[B])[K.length]? =some B:=fun K B=>by simp
 have is:∀(K:Mem)(B X:a1),(K++[B]).set K.length X=K++[X]:=fun K B X=>by simp
 refine hl TB (by simp[CL]) ?_;simp only[hg];simp-implicitDefEqProofs (disch:=omega) only[go_sem,CL,e1,aj];refine ej n.ch (fun j vs N=>((n.ch.take j).any fun x=>x.stay&&(decide (x.src=i)&&decide (x.h5=k)))=false/\vs=[.int .i64 i,.int .i64 k,.slice (n.ch.map dG.row) n.lc,.int .i64 n.ch.length,.int .i64 j]/\k0 M N) ⟨rfl,rfl,k0.refl M⟩ ?_ ?_;rotate_left
 . rintro vs N ⟨a9,rfl,ay⟩
   rw[gB] at a9;simp-implicitDefEqProofs (disch:=omega) only[go_sem,db];exact⟨a9.symm,ay⟩
 rintro j x vs N ad ap lJ ⟨a9,rfl,ay⟩;have lK:((n.ch.take (j+1)).any fun x=>x.stay&&(decide (x.src=i)&&decide (x.h5=k)))=(x.stay&&(decide (x.src=i)&&decide (x.h5=k))):=by
  rw[iu,ad,List.any_append,a9];simp
 have xR:(x.stay&&(decide (x.src=i)&&decide (x.h5=k)))=true->wk n i k=true:=fun h=>List.any_eq_true.2 ⟨x,dQ ad,h⟩;simp-implicitDefEqProofs (disch:=omega) only[go_sem,lJ,ad,dG.row,fb,is];refine ck (fun aT=>?_) (fun aT=>?_);rotate_left
 . simp-implicitDefEqProofs (disch:=omega) only[go_sem]
   exact cS ap ⟨by rw[lK,aT];rfl,rfl,ay.app _⟩
 simp-implicitDefEqProofs (disch:=omega) only[go_sem,fb];refine a5 (fun a2=>?_) (fun a2=>?_);rotate_left
 . simp-implicitDefEqProofs (disch:=omega) only[go_sem]
   exact cS ap ⟨by rw[lK,aT,decide_eq_false a2];rfl,rfl,ay.app _⟩
 simp-implicitDefEqProofs (disch:=omega) only[go_sem,fb];refine a5 (fun bJ=>?_) (fun bJ=>?_)
 . simp-implicitDefEqProofs (disch:=omega) only[go_sem]
   exact⟨(xR (by rw[aT,decide_eq_true a2,decide_eq_true bJ];rfl)).symm,ay.app _⟩
 . simp-implicitDefEqProofs (disch:=omega) only[go_sem]
   exact cS ap ⟨by rw[lK,aT,decide_eq_true a2,decide_eq_false bJ];rfl,rfl,ay.app _⟩
end Go.aL.C
namespace Go.aL.C
open Go.aL
theorem OT(z:Int)(a8:0<=z)(aa:z<=15):dN .shl .none (.int .i64 1) (.int .i64 z)=some (.int .i64 ((2^z.toNat:Nat):Int)):=by
 have af:2^z.toNat<=2^15:=Nat.pow_le_pow_right (by omega) (by omega);have hw:∀w:Nat,w<=2^15->IntKind.i64.wrap (w:Int)=(w:Int):=fun w hw=>n1 _ (by omega) (by omega);have hw:=hw _ af;show oL .shl .i64 1 z=_;unfold oL;rw[decide_eq_false (by omega)];have a4:min z.toNat IntKind.i64.bits=z.toNat:=by
  show min z.toNat 64=z.toNat;omega
 have bd:(1:Int)*2^z.toNat=((2^z.toNat:Nat):Int):=by simp
 simp only[cond_false,a4,bd,hw]
theorem Fz{n:Net}(ok:f4 n){i k:Nat}{r:bM}{c:bG}(an:n.runs[i]? =some r)(ar:r.calls[k]? =some c):∃s,n.stops[c.stop.toNat]? =some s/\0<=c.stop/\0<=s.kx/\s.kx<=15/\sg n c.stop=s.kx/\sv n c.stop=s.change/\0<=s.change/\s.change<=3600:=by
 obtain⟨aa,af⟩:=((ok.ok.runs.2 i r an).2.2.2.2.2.1.2.2 k c ar).1;obtain⟨s,ak⟩:∃s,n.stops[c.stop.toNat]? =some s:=⟨n.stops[c.stop.toNat]'(by omega),by simp⟩;have az:=ok.ok.stops.2 _ s ak;exact⟨s,ak,aa,az.2.1.1,az.2.1.2,by simp only[sg,ak],by simp only[sv,ak],az.2.2.1.1,az.2.2.1.2⟩
theorem aOs{n:Net}(ok:f4 n){i:Nat}{r:bM}(an:n.runs[i]? =some r):∃y,n.fP[r.ik.toNat]? =some y/\0<=r.ik/\0<=y.mode/\y.mode<=7/\Ep n r.ik=y.mode:=by
 obtain⟨aa,af⟩:=(ok.ok.runs.2 i r an).2.2.2.2.1;obtain⟨y,aE⟩:∃s,n.fP[r.ik.toNat]? =some s:=⟨n.fP[r.ik.toNat]'(by omega),by simp⟩;have az:=ok.ok.fP.2 _ y aE;exact⟨y,aE,aa,az.2.1.1,az.2.1.2,by simp only[Ep,aE]⟩
theorem OP{M:Mem}{i k:Nat}(h:k≠i)(X:a1)(L:Mem)(hi:i<M.length):(M.set i X++L)[k]? =(M++L)[k]? :=by
 rw[<-nV hi,dv (gq h)]
theorem XT{n:Net}{q:Query}{aM:bp}{f h:Nat}{A Q:List aJ}{O:List de}{N:Mem}(H:cF n q aM f h A Q O N)(aD:aM.wf)(b7:aM.ia)(el:∀o∈A,hk o)(l:aJ)(ag:hk l)(pp:l.a3.length+1<=1000)
 {i b k:Nat}{r:bM}{B c:bG}(bU:r.calls[b]? =some B)(stay:Bool)(rd:bf)(hp:A.length+1<=1000000000000)(it:Q.length+1<=1000000000000){e5 Ru:Nat}(aC:N[e5]? =some (.box (l.row aM)))(bI:N[e5+1]? =some (.box rd.row))(ce:N[e5+2]? =some (.box r.row))(Vp:N[Ru]? =some (.box c.row))
 (s:aI)(Ex:aX s 0=.ptr f 0)(f8:aX s 2=.int .i64 i)(sY:aX s 3=.int .i64 b)(Om:aX s 4=.bool stay)(On:aX s 7=.ptr e5 0)(Ey:aX s 11=.ptr (e5+1) 0)(Ez:aX s 12=.ptr (e5+2) 0)(AE:aX s 13=.int .i64 k)(J9:aX s 14=.ptr Ru 0)
 (P:Exit->aI->Mem->Prop)(nx:∀du c6 cO,cF n q aM f h c6 cO O du->eb f h N du->n4 A Q (nf l i b stay B c k rd) c6 cO->P .normal [(0,.ptr f 0),(2,.int .i64 i),(3,.int .i64 b),(4,.bool stay),(7,.ptr e5 0),(11,.ptr (e5+1) 0),(12,.ptr (e5+2) 0),(13,.int .i64 k)] du):
 dn au Q5 P s N:=by
 have rp:=fun L=>bY aC L;have aT:=fun L=>bY bI L;have a2:=fun L=>bY ce L;have gc:=fun L=>bY Vp L;have fY:=fun L=>eT N L;have s0:=fun L=>jM N L;have qu:=Pv l.a3 l.tag (uA i b stay B c k) (by omega);have qa:(l.row aM)[12]? =some (.slice (l.a3.map cd.row) l.tag):=rfl;have iy:l.row aM=[.int .i64 l.place.kind,.int .i64 l.place.stop,.int .i64 l.place.run,.int .i64 l.place.cm,.int .i64 l.place.cY.cf,.int .i64 l.place.cY.cJ,.int .i64 l.place.cY.gf,.int .i64 l.place.cY.eW,
  .int .i64 l.time,.int .i64 l.b5,.int .i64 l.walk,gN aM l.base,.slice (l.a3.map cd.row) l.tag]:=rfl;have pR:(l.row aM).take 13=l.row aM:=rfl;simp only[bf.row] at aT bI;simp only[bM.row] at a2 ce;simp only[bG.row] at gc Vp;simp only[uA,cd.row] at qu;obtain⟨cZ,fc⟩:∃cZ:aJ,cZ={l with place:=⟨1,c.stop,i,k,rd⟩}:=⟨_,rfl⟩;obtain⟨e4,gP⟩:∃e4:aJ,e4={l with place:=⟨1,c.stop,i,k,rd⟩,time:=c.cJ}:=⟨_,rfl⟩;obtain⟨mJ,tX⟩:∃mJ:aJ,mJ=nf l i b stay B c k rd:=⟨_,rfl⟩;have t1:((((((((l.row aM).set 0 (.int .i64 1)).set 1 (.int .i64 c.stop)).set 2 (.int .i64 i)).set 3 (.int .i64 k)).set 4 (.int .i64 rd.cf)).set 5 (.int .i64 rd.cJ)).set 6 (.int .i64 rd.gf)).set 7 (.int .i64 rd.eW)=cZ.row aM:=by rw[fc];rfl
 have t2:(cZ.row aM).set 8 (.int .i64 c.cJ)=e4.row aM:=by rw[fc,gP];rfl
 have t3:(e4.row aM).set 12 (.slice ((l.a3++[uA i b stay B c k]).map cd.row) .cx)=mJ.row aM:=by rw[gP,tX];rfl
 have aHf:hk mJ:=by rw[tX];exact ag
 simp only[uA] at t3;have aPK:(mJ.row aM).take 13=mJ.row aM:=rfl;clear fc gP;simp-implicitDefEqProofs (disch:=omega) only[go_sem,↓bm 21,↓bm 23,↓bm 25,↓bm 27,↓bm 30,↓bm 31,↓bm 32,↓bm 33,Ex,f8,sY,Om,On,Ey,Ez,AE,J9,aC,rp,aT,a2,gc,fY,s0,aJ.len,aJ.cell,AK,pR,t1,t2,qa,bU,bG.row];first|refine b1 (qu) ?_|refine bV (qu) ?_
 simp-implicitDefEqProofs (disch:=omega) only[go_sem,↓bm 29,Ex,f8,sY,Om,On,Ey,Ez,AE,J9,fY,s0,aJ.len,t3,aPK];refine ew (OM (H.app _) aD b7 el mJ aHf hp it) ?_;rintro v du ⟨rfl,cr,c6,cO,bl,jm⟩;simp-implicitDefEqProofs (disch:=omega) only[go_sem,Ex,f8,sY,Om,On,Ey,Ez,AE];exact nx du c6 cO bl ((eb.app f h N _).trans cr) (tX▸jm)
theorem KF{n:Net}{q:Query}{aM:bp}{f h:Nat}{A Q:List aJ}{O:List de}{M:Mem}(H:cF n q aM f h A Q O M)(ok:f4 n)(aD:aM.wf)(b7:aM.ia)(el:∀o∈A,hk o)(l:aJ)(ag:hk l)(pp:l.a3.length+1<=1000)
 {i b:Nat}{r:bM}{B:bG}(an:n.runs[i]? =some r)(bU:r.calls[b]? =some B)(stay:Bool)(cY:bf)(hp:A.length+(ng n l i b stay cY).length<=1000000000000)(it:Q.length+(ng n l i b stay cY).length<=1000000000000):
 b9 au D4 [.ptr f 0,.agg (l.row aM),.int .i64 i,.int .i64 b,.bool stay,.agg cY.row] M (fun v ah=>v=.tuple []/\eb f h M ah/\∃c6 cO,cF n q aM f h c6 cO O ah/\gh A Q (ng n l i b stay cY) c6 cO):=by
 obtain⟨m,o,E,aa,af,az⟩:=H.box;obtain⟨aRw,Dd,pm⟩:=H.vb;have cz:=fun L=>bY aa L;simp only[iY] at cz;have fW:=fun L=>eT M L;have eX:=fun L=>i1 M L;have s0:=fun L=>jM M L;have s1:=fun L=>lj M L;obtain⟨y,aE,EU,qT,EV,aQQ⟩:=aOs ok an;obtain⟨W7,aJ4,KQ,h7,hj,aQR,_⟩:=Fz ok an bU;have aJ9:=OT y.mode qT (by omega);have aJ_:=OT W7.kx h7 hj;have hlen:=(ok.ok.runs.2 i r an).2.2.2.2.2.1.2.1;have mB:=(bo.1 bU).1;have aKl:ng n l i b stay cY=nY n l i b stay B (r.calls.drop (b+1)) (b+1) (uz n r B cY):=by simp only[ng,an,bU]
 rw[aKl] at hp it⊢;refine hl TC (by simp[CM]) ?_;simp only[hg];simp-implicitDefEqProofs (disch:=omega) only[go_sem,CM,e1,aJ.len,bf.row,cz,eX,s1,en,an,bM.row,aE,fo.row,bU,bG.row,aJ4,Stop.row,aJ9,aJ_];obtain⟨N,dc⟩:∃N,N=M++[a1.box (l.row aM),.box (uz n r B cY).row,.box r.row]:=⟨_,rfl⟩;have UY:uz n r B cY=⟨cY.cf,cY.cJ,qH .i64 cY.gf ((2^W7.kx.toNat:Nat):Int),qH .i64 cY.eW ((2^y.mode.toNat:Nat):Int)⟩:=by
  simp only[uz,bf.kx,bf.mode,aQQ,aQR]
 have HB:=dc;rw[UY] at HB;simp only[bf.row,bM.row] at HB;rw[<-HB];have yk:N[M.length]? =some (.box (l.row aM)):=by rw[dc,fW];rfl
 have v2:N[M.length+1]? =some (.box (uz n r B cY).row):=by rw[dc,eX];rfl
 have v4:N[M.length+2]? =some (.box r.row):=by rw[dc,eX];rfl
 have K0:cF n q aM f h A Q O N:=by rw[dc];exact H.app _
 have Mp:eb f h M N:=by rw[dc];exact eb.app f h M _
 clear dc HB UY cz fW eX s0 s1;generalize i9:M.length=e5 at*;generalize pj:nY n l i b stay B (r.calls.drop (b+1)) (b+1) (uz n r B cY)=full at*;have aRr:(r.calls.drop (b+1)).length=r.calls.length -(b+1):=List.length_drop;have aH2:∀(j:Nat)(c:bG),(r.calls.drop (b+1))[j]? =some c->r.calls[b+1+j]? =some c:=fun j c ap=>by rw[kW] at ap;exact ap
 generalize fd:r.calls.drop (b+1)=cs at*;refine ej cs (fun j vs N=>∃ea eo rd,vs=[.ptr f 0,.int .i64 i,.int .i64 b,.bool stay,.ptr e5 0,.ptr (e5+1) 0,.ptr (e5+2) 0,.int .i64 ((b+1+j:Nat):Int)]/\cF n q aM f h ea eo O N/\eb f h M N/\N[e5]? =some (.box (l.row aM))/\N[e5+1]? =some (.box (bf.row rd))/\N[e5+2]? =some (.box r.row)/\(∀o∈ea,hk o)/\
  ea.length+(nY n l i b stay B (cs.drop j) (b+1+j) rd).length<=1000000000000/\eo.length+(nY n l i b stay B (cs.drop j) (b+1+j) rd).length<=1000000000000/\∀c6 cO,gh ea eo (nY n l i b stay B (cs.drop j) (b+1+j) rd) c6 cO->gh A Q full c6 cO)
  ⟨A,Q,uz n r B cY,rfl,K0,Mp,yk,v2,v4,el,by rw[lW,iT,pj];exact hp,by rw[lW,iT,pj];exact it,fun c6 cO a9=>by rw[lW,iT,pj] at a9;exact a9⟩ ?_ ?_;rotate_left
 . rintro vs dW ⟨ea,eo,rd,rfl,sk,nt,aC,bI,ce,jC,o1,o4,qb⟩
   have aH6:decide (((b+1+cs.length:Nat):Int)<(r.calls.length:Int))=false:=decide_eq_false (by omega);simp only[bM.row] at ce;simp-implicitDefEqProofs (disch:=omega) only[go_sem,↓bm 11,ce,aH6];rw[List.drop_length] at qb;exact⟨nt,ea,eo,sk,qb ea eo ⟨rfl,rfl⟩⟩
 rintro j c vs dW ar ap lJ ⟨ea,eo,rd,rfl,sk,nt,aC,bI,ce,jC,o1,o4,qb⟩;have oe:=aH2 j c ar;obtain⟨mN,ND,fY,a4,bd,e3,_⟩:=Fz ok an oe;have aKa:=OT mN.kx a4 bd;have HM:decide (((b+1+j:Nat):Int)<(r.calls.length:Int))=true:=decide_eq_true (by omega);have aKn:nY n l i b stay B (cs.drop j) (b+1+j) rd=(if c.fC||wk n i (b+1+j:Nat) then[nf l i b stay B c (b+1+j) (rd.at n c)] else[])++nY n l i b stay B (cs.drop (j+1)) (b+1+(j+1)) (rd.at n c):=by
  rw[sA ar];rfl
 rw[aKn] at o1 o4 qb;generalize De:b+1+j=k at*;have i8:b+1+(j+1)=k+1:=by omega
 rw[i8] at o1 o4 qb;obtain⟨m,o,E,aa,_⟩:=sk.box;have fc:e5+1<dW.length:=(bo.1 bI).1;have gP:e5+2<dW.length:=(bo.1 ce).1;have fp:=fun L=>bY aC L;have bW:=fun L=>bY bI L;have b8:=fun L=>bY ce L;have Lh:=fun L=>bY aa L;have fL:∀X L,(dW++L).set (e5+1) X=dW.set (e5+1) X++L:=fun X L=>nV fc L X;have iB:∀X L,(dW.set (e5+1) X++L)[e5+1]? =some X:=fun X L=>bY (eB fc) L;have r2:∀X Y L,(dW.set (e5+1) X++L).set (e5+1) Y=dW.set (e5+1) Y++L:=fun X Y L=>by rw[nV (by rw[eR];exact fc),List.set_set]
 have rl:∀X L,(dW.set (e5+1) X++L)[e5]? =some (.box (l.row aM)):=fun X L=>by rw[OP (by omega) X L fc];exact fp L
 have W3:∀X L,(dW.set (e5+1) X++L)[e5+2]? =some (.box r.row):=fun X L=>by rw[OP (by omega) X L fc];exact b8 L
 have aOh:∀X L,(dW.set (e5+1) X++L)[f]? =some (iY n q m h o):=fun X L=>by rw[OP (by omega) X L fc];exact Lh L
 have ys:∀X L,(dW.set (e5+1) X++L)[dW.length]? =L[0]? :=fun X L=>by
  have:=eT (dW.set (e5+1) X) L;rwa [eR] at this
 have rs:∀X L Y,(dW.set (e5+1) X++L).set dW.length Y=dW.set (e5+1) X++L.set 0 Y:=fun X L Y=>by
  have:=jM (dW.set (e5+1) X) L Y;rwa [eR] at this
 have rp:=fun L=>eT dW L;have w0:=fun L=>jM dW L;simp only[bM.row] at ce b8 W3;simp only[iY] at Lh aOh aa;have JN:=bI;simp only[bf.row] at bW JN;simp-implicitDefEqProofs (disch:=omega) only[go_sem,↓bm 11,↓bm 13,↓bm 15,↓bm 17,↓bm 19,ce,HM,oe,bG.row,bW,Lh,fL,iB,r2,ys,rp,w0,e1,ND,Stop.row,aKa];obtain⟨eF,rt⟩:∃eF,eF=dW.set (e5+1) (.box (rd.at n c).row)++[a1.box c.row]:=⟨_,rfl⟩;have m0:rd.at n c=⟨rd.cf,c.cJ,qH .i64 rd.gf ((2^mN.kx.toNat:Nat):Int),rd.eW⟩:=by simp only[bf.at,bf.kx,e3]
 have HC:=rt;rw[m0] at HC;simp only[bf.row,bG.row] at HC;have h9:cF n q aM f h ea eo O eF:=by rw[rt];exact(sk.uE bI (by omega) (by omega) _).app _
 have p_:eb f h M eF:=by rw[rt];exact(nt.uE (by omega) _).trans (eb.app f h _ _)
 have gT:eF[e5]? =some (.box (l.row aM)):=by rw[rt];exact rl _ _
 have dx:eF[e5+1]? =some (.box (rd.at n c).row):=by rw[rt];exact iB _ _
 have dm:eF[e5+2]? =some (.box r.row):=by rw[rt];exact W3 _ _
 have hc:eF[dW.length]? =some (.box c.row):=by rw[rt,ys];rfl
 have fin:∀gE nl no,cF n q aM f h nl no O gE->eb f h eF gE->gh ea eo (if c.fC||wk n i (k:Nat) then[nf l i b stay B c k (rd.at n c)] else[]) nl no->
  ∃e6,e6<cs.length -j/\∃j',e6=cs.length -j'/\j'<=cs.length/\∃ea eo rd,[V.ptr f 0,.int .i64 i,.int .i64 b,.bool stay,.ptr e5 0,.ptr (e5+1) 0,.ptr (e5+2) 0,.int .i64 ((k:Int)+1)]=[.ptr f 0,.int .i64 i,.int .i64 b,.bool stay,.ptr e5 0,.ptr (e5+1) 0,.ptr (e5+2) 0,.int .i64 ((b+1+j':Nat):Int)]/\
   cF n q aM f h ea eo O gE/\eb f h M gE/\gE[e5]? =some (.box (l.row aM))/\gE[e5+1]? =some (.box (bf.row rd))/\gE[e5+2]? =some (.box r.row)/\(∀o∈ea,hk o)/\
   ea.length+(nY n l i b stay B (cs.drop j') (b+1+j') rd).length<=1000000000000/\eo.length+(nY n l i b stay B (cs.drop j') (b+1+j') rd).length<=1000000000000/\∀c6 cO,gh ea eo (nY n l i b stay B (cs.drop j') (b+1+j') rd) c6 cO->gh A Q full c6 cO:=by
  intro gE nl no ak vn jm;have hlen:=jm.len;rw[dz] at o1 o4;refine⟨cs.length -(j+1),by omega,j+1,rfl,ap,nl,no,rd.at n c,by rw[i8];rfl,ak,p_.trans vn,vn _ _ gT (by omega) (by omega),vn _ _ dx (by omega) (by omega),vn _ _ dm (by omega) (by omega),?_,by rw[i8];omega,by rw[i8];omega,fun c6 cO hH=>?_⟩
  . refine jm.all jC ?_
    intro x ad;split at ad
    . rw[gZ.1 ad];exact ag
    . cases ad
  . rw[i8] at hH
    exact qb c6 cO (jm.app hH)
 rw[dz] at o1 o4;refine ck (fun g=>?_) (fun g=>?_)
 . simp-implicitDefEqProofs (disch:=omega) only[go_sem]
   rw[<-HC];have nB:(if c.fC||wk n i (k:Nat) then[nf l i b stay B c k (rd.at n c)] else[])=[nf l i b stay B c k (rd.at n c)]:=by rw[g,Bool.true_or];rfl
   rw[nB] at o1 o4 fin;simp only[List.length_singleton] at o1 o4;refine XT h9 aD b7 jC l ag pp bU stay (rd.at n c) (by omega) (by omega) gT dx dm hc _ rfl rfl rfl rfl rfl rfl rfl rfl rfl _ fun gE nl no ak vn jm=>?_;simp-implicitDefEqProofs (disch:=omega) only[go_sem];exact .inl (fin gE nl no ak vn (gh.one jm))
 simp-implicitDefEqProofs (disch:=omega) only[go_sem];rw[<-HC];refine ew (aPo h9 (kb ok.ch (by omega)) (i:Int) (k:Int)) ?_;rintro v gE ⟨rfl,G,rfl⟩;generalize bl:wk n (i:Int) (k:Int)=aOK at*;cases aOK with
 |false=>
  have aJC:(if c.fC||false then[nf l i b stay B c k (rd.at n c)] else[])=[]:=by rw[g];rfl
  rw[aJC] at fin;simp-implicitDefEqProofs (disch:=omega) only[go_sem];exact .inl (fin _ ea eo (h9.app G) (eb.app f h eF G) ⟨rfl,rfl⟩)
 |true=>
  simp-implicitDefEqProofs (disch:=omega) only[go_sem];have nB:(if c.fC||true then[nf l i b stay B c k (rd.at n c)] else[])=[nf l i b stay B c k (rd.at n c)]:=by rw[Bool.or_true];rfl
  rw[nB] at o1 o4 fin;simp only[List.length_singleton] at o1 o4;refine XT (h9.app G) aD b7 jC l ag pp bU stay (rd.at n c) (by omega) (by omega) (bY gT G) (bY dx G) (bY dm G) (bY hc G) _ rfl rfl rfl rfl rfl rfl rfl rfl rfl _ fun gE nl no ak vn jm=>?_;simp-implicitDefEqProofs (disch:=omega) only[go_sem];exact .inl (fin gE nl no ak ((eb.app f h eF G).trans vn) (gh.one jm))
end Go.aL.C
namespace Go.aL.C
open Go.aL
def q0(n:Net)(q:Query)(aM:bp)(f h:Nat)(A Q:List aJ)(O:List de)(M:Mem)(L:List aJ)(v:V)(ah:Mem):Prop:=
 v=.tuple []/\eb f h M ah/\∃c6 cO,cF n q aM f h c6 cO O ah/\gh A Q L c6 cO
def qE(l:aJ)(i k:Int)(x:dG):Bool:=!x.stay&&(decide (l.place.kind=1)&&(decide (x.src=l.place.run)&&(decide (x.h5=l.place.cm)&&(decide (x.dst=i)&&decide (x.kj=k)))))
def JT(n:Net)(l:aJ)(i k:Int):Bool:=n.ch.any (qE l i k)
theorem aLJ{n:Net}{q:Query}{aM:bp}{f h:Nat}{A Q:List aJ}{O:List de}{M:Mem}(H:cF n q aM f h A Q O M)(ag:n.ch.length<=100000)(l:aJ)(i k:Int):
 b9 au Jc [.ptr f 0,.agg (l.row aM),.int .i64 i,.int .i64 k] M (fun v ah=>v=.bool (JT n l i k)/\k0 M ah):=by
 obtain⟨m,o,E,aa,af,az⟩:=H.box;have cz:=fun L=>bY aa L;simp only[iY] at cz;have fb:∀(K:Mem)(B:a1),(K++[B])[K.length]? =some B:=fun K B=>by simp
 have is:∀(K:Mem)(B X:a1),(K++[B]).set K.length X=K++[X]:=fun K B X=>by simp
 refine hl Ty (by simp[CI]) ?_;simp only[hg];simp-implicitDefEqProofs (disch:=omega) only[go_sem,CI,e1,cz,aJ.len];refine ej n.ch (fun j vs N=>(n.ch.take j).any (qE l i k)=false/\vs=[.int .i64 i,.int .i64 k,.ptr M.length 0,.slice (n.ch.map dG.row) n.lc,.int .i64 n.ch.length,.int .i64 j]/\k0 (M++[.box (l.row aM)]) N) ⟨rfl,rfl,k0.refl _⟩ ?_ ?_;rotate_left
 . rintro vs N ⟨a9,rfl,G,rfl⟩
   rw[gB] at a9;simp-implicitDefEqProofs (disch:=omega) only[go_sem,↓bm 5,↓bm 25,db];exact⟨a9.symm,_,en ..⟩
 rintro j x vs N ad ap lJ ⟨a9,rfl,ay⟩;have lK:(n.ch.take (j+1)).any (qE l i k)=qE l i k x:=by
  rw[iu,ad,List.any_append,a9];simp
 have xR:qE l i k x=true->JT n l i k=true:=fun h=>List.any_eq_true.2 ⟨x,dQ ad,h⟩;have ii:∀L,(N++L)[M.length]? =some (.box (l.row aM)):=fun L=>by
  obtain⟨G,rfl⟩:=ay;rw[en,en,j_ (cH _),mS];rfl
 have pw:(l.row aM)[0]? =some (.int .i64 l.place.kind):=rfl;have H0:(l.row aM)[2]? =some (.int .i64 l.place.run):=rfl;have aJX:(l.row aM)[3]? =some (.int .i64 l.place.cm):=rfl;simp-implicitDefEqProofs (disch:=omega) only[go_sem,↓bm 5,↓bm 8,↓bm 13,lJ,ad,dG.row,fb,is];refine ck (fun aT=>?_) (fun aT=>?_)
 . simp-implicitDefEqProofs (disch:=omega) only[go_sem,↓bm 17]
   exact cS ap ⟨by rw[lK,qE,aT];rfl,rfl,ay.app _⟩
 simp-implicitDefEqProofs (disch:=omega) only[go_sem,ii,pw];refine a5 (fun a2=>?_) (fun a2=>?_);rotate_left
 . simp-implicitDefEqProofs (disch:=omega) only[go_sem,↓bm 17]
   exact cS ap ⟨by rw[lK,qE,aT,decide_eq_false a2];rfl,rfl,ay.app _⟩
 simp-implicitDefEqProofs (disch:=omega) only[go_sem,fb,ii,H0];refine a5 (fun bJ=>?_) (fun bJ=>?_);rotate_left
 . simp-implicitDefEqProofs (disch:=omega) only[go_sem,↓bm 17]
   exact cS ap ⟨by rw[lK,qE,aT,decide_eq_true a2,decide_eq_false bJ];rfl,rfl,ay.app _⟩
 simp-implicitDefEqProofs (disch:=omega) only[go_sem,fb,ii,aJX];refine a5 (fun c8=>?_) (fun c8=>?_);rotate_left
 . simp-implicitDefEqProofs (disch:=omega) only[go_sem,↓bm 17]
   exact cS ap ⟨by rw[lK,qE,aT,decide_eq_true a2,decide_eq_true bJ,decide_eq_false c8];rfl,rfl,ay.app _⟩
 simp-implicitDefEqProofs (disch:=omega) only[go_sem,fb];refine a5 (fun eI=>?_) (fun eI=>?_);rotate_left
 . simp-implicitDefEqProofs (disch:=omega) only[go_sem,↓bm 17]
   exact cS ap ⟨by rw[lK,qE,aT,decide_eq_true a2,decide_eq_true bJ,decide_eq_true c8,decide_eq_false eI];rfl,rfl,ay.app _⟩
 simp-implicitDefEqProofs (disch:=omega) only[go_sem,fb];refine a5 (fun eZ=>?_) (fun eZ=>?_)
 . simp-implicitDefEqProofs (disch:=omega) only[go_sem]
   obtain⟨G,rfl⟩:=ay;exact⟨(xR (by rw[qE,aT,decide_eq_true a2,decide_eq_true bJ,decide_eq_true c8,decide_eq_true eI,decide_eq_true eZ];rfl)).symm,_,by rw[en,en]⟩
 . simp-implicitDefEqProofs (disch:=omega) only[go_sem,↓bm 17]
   exact cS ap ⟨by rw[lK,qE,aT,decide_eq_true a2,decide_eq_true bJ,decide_eq_true c8,decide_eq_true eI,decide_eq_false eZ];rfl,rfl,ay.app _⟩
def ta(x:cd)(FJ:Int):cd:={x with cf:=x.cf+(FJ -x.cJ),cJ:=FJ}
def pc(l:aJ)(FJ:Int):aJ:=match l.a3 with
 |[x]=>if x.cY=false then{l with b5:=l.b5+1,a3:=[ta x FJ],tag:=.full} else{l with b5:=l.b5+1}
 |_=>{l with b5:=l.b5+1}
def o3(n:Net)(q:Query)(l:aJ)(i k:Nat):List aJ:=if l.b5=q.b5 then[] else match(ki n i)[k]? with
 |some c=>ng n (pc l c.cf) i k false ⟨c.cf,0,0,0⟩
 |none=>[]
def y2(x:cd):Prop:=(0<=x.cJ/\x.cJ<=3155932800)/\(-3155932800<=x.cJ -x.cf/\x.cJ -x.cf<=3155932800)
theorem QU{n:Net}{q:Query}{aM:bp}{f h:Nat}{A Q:List aJ}{O:List de}{M:Mem}(H:cF n q aM f h A Q O M)(ok:f4 n)(aD:aM.wf)(b7:aM.ia)(el:∀o∈A,hk o)(l:aJ)(ag:hk l)(pp:l.a3.length+1<=1000)(UV:l.b5<=1000)(pw:0<=l.b5)(ii:∀x∈l.a3,y2 x)
 {i k:Nat}{r:bM}{c:bG}(an:n.runs[i]? =some r)(ar:r.calls[k]? =some c)(hp:A.length+(o3 n q l i k).length<=1000000000000)(it:Q.length+(o3 n q l i k).length<=1000000000000):
 b9 au Ja [.ptr f 0,.agg (l.row aM),.int .i64 i,.int .i64 k] M (q0 n q aM f h A Q O M (o3 n q l i k)):=by
 obtain⟨m,o,E,aa,af,az⟩:=H.box;have cz:=fun L=>bY aa L;have fW:=fun L=>eT M L;have eX:=fun L=>i1 M L;have s0:=fun L=>jM M L;have s1:=fun L=>lj M L;have C4:=(ok.ok.runs.2 i r an).2.2.2.2.2.1.2.2 k c ar;have xw:0<=c.cf/\c.cf<=3155932800:=by have:=C4.2.1;omega
 simp only[iY] at cz;have tI:(l.row aM)[9]? =some (.int .i64 l.b5):=rfl;have sI:ki n i=r.calls:=by simp only[ki,an]
 have gL:IntKind.i64.wrap (l.b5+1)=l.b5+1:=n1 _ (by omega) (by omega);simp only[o3,sI,ar] at hp it⊢;refine hl Tv (by simp[CE]) ?_;simp only[hg];simp-implicitDefEqProofs (disch:=omega) only[go_sem,CE,e1,aJ.len,cz,fW,tI];refine a5 (fun g=>?_) (fun g=>?_)
 . simp-implicitDefEqProofs (disch:=omega) only[go_sem]
   rw[if_pos g];exact⟨rfl,eb.app f h M _,A,Q,H.app _,rfl,rfl⟩
 rw[if_neg g] at hp it⊢;obtain⟨cZ,fc⟩:∃cZ:aJ,cZ={l with b5:=l.b5+1}:=⟨_,rfl⟩;have t1:(l.row aM).set 9 (.int .i64 (l.b5+1))=cZ.row aM:=by rw[fc];rfl
 have qa:(cZ.row aM)[12]? =some (.slice (l.a3.map cd.row) l.tag):=by rw[fc];rfl
 have jg:∀l:aJ,(l.row aM).take 13=l.row aM:=fun _=>rfl;simp-implicitDefEqProofs (disch:=omega) only[go_sem,↓bm 5,↓bm 7,e1,aJ.len,cz,fW,s0,tI,an,bM.row,ar,bG.row,gL,t1];have H1:∀L,cF n q aM f h A Q O (M++L):=fun L=>H.app L;have nt:∀L,eb f h M (M++L):=fun L=>eb.app f h M L;simp-implicitDefEqProofs (disch:=omega) only[go_sem,↓bm 20,fW,qa];refine a5 (fun aT=>?_) (fun aT=>?_);rotate_left
 . have g3:pc l c.cf=cZ:=by
    rw[fc];unfold pc;match zS:l.a3 with
    |[]=>rfl
    |[x]=>rw[zS] at aT;exact absurd rfl aT
    |_::_::_=>rfl
   rw[g3] at hp it⊢;simp-implicitDefEqProofs (disch:=omega) only[go_sem,↓bm 22,fW,aJ.len,jg];have CW:hk cZ:=by rw[fc];exact ag
   have Nk:cZ.a3.length+1<=1000:=by rw[fc];exact pp
   refine ew (KF (H1 _) ok aD b7 el cZ CW Nk an ar false ⟨c.cf,0,0,0⟩ hp it) ?_;rintro v N ⟨rfl,cr,c6,cO,bl,jm⟩;simp-implicitDefEqProofs (disch:=omega) only[go_sem];exact⟨rfl,(nt _).trans cr,c6,cO,bl,jm⟩
 obtain⟨x,ad⟩:∃x,l.a3=[x]:=by
  match zS:l.a3 with
  |[]=>rw[zS] at aT;cases aT
  |[x]=>exact⟨x,rfl⟩
  |_::_::_=>rw[zS] at aT;simp only[dC] at aT;omega
 have qf:=ii x (by rw[ad];exact gZ.2 rfl);rw[ad] at qa;simp only[hY,lq] at qa;simp-implicitDefEqProofs (disch:=omega) only[go_sem,fW,qa,cd.row];refine ck (fun a2=>?_) (fun a2=>?_)
 . have g3:pc l c.cf=cZ:=by
    rw[fc];unfold pc;rw[ad];show(if x.cY=false then _ else _)=_;rw[if_neg (by rw[a2];exact Bool.noConfusion)]
   rw[g3] at hp it⊢;simp-implicitDefEqProofs (disch:=omega) only[go_sem,↓bm 22,fW,aJ.len,jg];have CW:hk cZ:=by rw[fc];exact ag
   have Nk:cZ.a3.length+1<=1000:=by rw[fc];exact pp
   refine ew (KF (H1 _) ok aD b7 el cZ CW Nk an ar false ⟨c.cf,0,0,0⟩ hp it) ?_;rintro v N ⟨rfl,cr,c6,cO,bl,jm⟩;simp-implicitDefEqProofs (disch:=omega) only[go_sem];exact⟨rfl,(nt _).trans cr,c6,cO,bl,jm⟩
 obtain⟨e4,gP⟩:∃e4:aJ,e4={l with b5:=l.b5+1,a3:=[ta x c.cf],tag:=.full}:=⟨_,rfl⟩;have g3:pc l c.cf=e4:=by
  rw[gP];unfold pc;rw[ad];show(if x.cY=false then _ else _)=_;rw[if_pos a2]
 rw[g3] at hp it⊢;have t2:(cZ.row aM).set 12 (.slice [(ta x c.cf).row] .full)=e4.row aM:=by rw[fc,gP];rfl
 have kS:IntKind.i64.wrap (c.cf -x.cJ)=c.cf -x.cJ:=n1 _ (by obtain⟨⟨_,_⟩,_,_⟩:=qf;omega) (by obtain⟨⟨_,_⟩,_,_⟩:=qf;omega);have wv:IntKind.i64.wrap (x.cf+(c.cf -x.cJ))=x.cf+(c.cf -x.cJ):=n1 _ (by obtain⟨⟨_,_⟩,_,_⟩:=qf;omega) (by obtain⟨⟨_,_⟩,_,_⟩:=qf;omega);simp only[ta,cd.row] at t2;simp-implicitDefEqProofs (disch:=omega) only[go_sem,↓bm 9,↓bm 11,↓bm 13,↓bm 15,↓bm 22,fW,eX,s0,s1,qa,kS,wv,t2,jg,aJ.len,en,cd.row];have nw:hk e4:=by rw[gP];exact ag
 have aJn:e4.a3.length+1<=1000:=by rw[gP];show 1+1<=1000;omega
 refine ew (KF (H1 _) ok aD b7 el e4 nw aJn an ar false ⟨c.cf,0,0,0⟩ hp it) ?_;rintro v N ⟨rfl,cr,c6,cO,bl,jm⟩;simp-implicitDefEqProofs (disch:=omega) only[go_sem];exact⟨rfl,(nt _).trans cr,c6,cO,bl,jm⟩
end Go.aL.C
namespace Go.aL.C
open Go.aL
structure q3(l:aJ):Prop where
 lw:hk l
 a3:l.a3.length+1<=1000
 fL:0<=l.b5
 OD:l.b5<=1000
 rS:∀x∈l.a3,y2 x
 time:0<=l.time/\l.time<=3155932800
 walk:0<=l.walk/\l.walk<=86400
def ed(n:Net)(q:Query)(aM:bp)(f h:Nat)(A Q:List aJ)(O:List de)(gD:Mem)(full dB:List aJ)(N:Mem):Prop:=
 ∃ea eo,cF n q aM f h ea eo O N/\eb f h gD N/\(∀o∈ea,hk o)/\ea.length+dB.length<=1000000000000/\eo.length+dB.length<=1000000000000/\∀c6 cO,gh ea eo dB c6 cO->gh A Q full c6 cO
section
variable{n:Net}{q:Query}{aM:bp}{f h:Nat}{A Q:List aJ}{O:List de}{gD M N du:Mem}{full dB L:List aJ}
theorem ed.app(H:ed n q aM f h A Q O gD full dB N)(G:Mem):ed n q aM f h A Q O gD full dB (N++G):=by
 obtain⟨ea,eo,ak,cr,aa⟩:=H;exact⟨ea,eo,ak.app G,cr.trans (eb.app f h N G),aa⟩
theorem ed.start(H:cF n q aM f h A Q O N)(el:∀o∈A,hk o)(o1:A.length+full.length<=1000000000000)(o4:Q.length+full.length<=1000000000000):ed n q aM f h A Q O N full full N:=
 ⟨A,Q,H,eb.refl f h N,el,o1,o4,fun _ _ h=>h⟩
theorem ed.done(H:ed n q aM f h A Q O gD full [] N)(cr:eb f h M gD):q0 n q aM f h A Q O M full (.tuple []) N:=by
 obtain⟨ea,eo,ak,nt,_,_,_,aa⟩:=H;exact⟨rfl,cr.trans nt,ea,eo,ak,aa ea eo ⟨rfl,rfl⟩⟩
theorem ed.call{i:Nat}{args:List V}{K:V->Mem->Prop}(H:ed n q aM f h A Q O gD full (L++dB) N)(cV:∀x∈L,hk x)
 (ar:∀ea eo,cF n q aM f h ea eo O N->(∀o∈ea,hk o)->ea.length+L.length<=1000000000000->eo.length+L.length<=1000000000000->b9 au i args N (q0 n q aM f h ea eo O N L))
 (ao:∀du,eb f h N du->ed n q aM f h A Q O gD full dB du->K (.tuple []) du):@qX au i args N ⟨K⟩:=by
 obtain⟨ea,eo,ak,cr,el,o1,o4,aa⟩:=H;rw[dz] at o1 o4;refine ew (ar ea eo ak el (by omega) (by omega)) ?_;rintro v du ⟨rfl,CQ,yU,y6,hK,jm⟩;have hlen:=jm.len;exact ao du CQ ⟨yU,y6,hK,cr.trans CQ,jm.all el cV,by omega,by omega,fun c6 cO hH=>aa c6 cO (jm.app hH)⟩
theorem ed.nil(H:ed n q aM f h A Q O gD full ([]++dB) N):ed n q aM f h A Q O gD full dB N:=H
theorem ed.st(H:ed n q aM f h A Q O gD full dB N):∃ea eo,cF n q aM f h ea eo O N/\eb f h gD N:=by
 obtain⟨ea,eo,ak,cr,_⟩:=H;exact⟨ea,eo,ak,cr⟩
end
theorem XQ{n:Net}{l:aJ}{i b:Nat}{stay:Bool}{B:bG}:∀{cs:List bG}{k:Nat}{cY:bf},∀x∈nY n l i b stay B cs k cY,x.base=l.base
 |[],_,_,x,ad=>by cases ad
 |c::cs,k,cY,x,ad=>by
  rcases g9.1 ad with ad|ad
  . split at ad
    . rw[gZ.1 ad];rfl
    . cases ad
  . exact XQ x ad
theorem Pb{n:Net}{l:aJ}{i b:Nat}{stay:Bool}{cY:bf}:∀x∈ng n l i b stay cY,x.base=l.base:=by
 intro x ad;unfold ng at ad;split at ad
 . split at ad
   . exact XQ x ad
   . cases ad
 . cases ad
theorem aEU(l:aJ)(d:Int):(pc l d).base=l.base:=by
 unfold pc;split
 . split<;>rfl
 . rfl
theorem Lz{n:Net}{q:Query}{l:aJ}{i k:Nat}:∀x∈o3 n q l i k,x.base=l.base:=by
 intro x ad;unfold o3 at ad;split at ad
 . cases ad
 . split at ad
   . rw[Pb x ad,aEU]
   . cases ad
theorem hk.base{a b:aJ}(h:hk a)(e:b.base=a.base):hk b:=by unfold hk;rw[e];exact h
def wQ(n:Net)(l:aJ)(t:Int)(r:bM)(i k:Nat)(c:bG):Bool:=
 !r.gone&&(c.ha&&(decide (c.stop=l.place.stop)&&(!decide (((k:Int)+1)=(r.calls.length:Int))&&(decide (t<=c.cf)||(decide (l.time<=c.cf)&&JT n l i k)))))
def zc(n:Net)(q:Query)(l:aJ)(t:Int)(r:bM)(i k:Nat)(c:bG):List aJ:=if wQ n l t r i k c then o3 n q l i k else[]
def rb(n:Net)(q:Query)(l:aJ)(t:Int)(r:bM)(i:Nat):List bG->Nat->List aJ
 |[],_=>[]
 |c::cs,k=>zc n q l t r i k c++rb n q l t r i cs (k+1)
def p6(n:Net)(q:Query)(l:aJ)(t:Int):List bM->Nat->List aJ
 |[],_=>[]
 |r::rs,i=>rb n q l t r i r.calls 0++p6 n q l t rs (i+1)
def lC(n:Net)(q:Query)(l:aJ)(t:Int):List aJ:=p6 n q l t n.runs 0
theorem acD{n:Net}{q:Query}{l:aJ}{t:Int}{r:bM}{i k:Nat}{c:bG}:∀x∈zc n q l t r i k c,x.base=l.base:=by
 intro x ad;unfold zc at ad;split at ad
 . exact Lz x ad
 . cases ad
theorem Ly{n:Net}{q:Query}{aM:bp}{f h:Nat}{A Q:List aJ}{O:List de}{M:Mem}(H:cF n q aM f h A Q O M)(ok:f4 n)(aD:aM.wf)(b7:aM.ia)(el:∀o∈A,hk o)(l:aJ)(ag:q3 l)(t:Int)
 (hp:A.length+(lC n q l t).length<=1000000000000)(it:Q.length+(lC n q l t).length<=1000000000000):
 b9 au Ad [.ptr f 0,.agg (l.row aM),.int .i64 t] M (q0 n q aM f h A Q O M (lC n q l t)):=by
 obtain⟨m,o,E,aa,af,az⟩:=H.box;obtain⟨_,Dd,pm⟩:=H.vb;have cz:=fun L=>bY aa L;have fW:=fun L=>eT M L;simp only[iY] at cz;have fb:∀(K:Mem)(B:a1),(K++[B])[K.length]? =some B:=fun K B=>by simp
 have is:∀(K:Mem)(B X:a1),(K++[B]).set K.length X=K++[X]:=fun K B X=>by simp
 have jg:∀l:aJ,(l.row aM).take 13=l.row aM:=fun _=>rfl;have oj:(l.row aM)[1]? =some (.int .i64 l.place.stop):=rfl;have UV:(l.row aM)[8]? =some (.int .i64 l.time):=rfl;refine hl Tu (by simp[CF]) ?_;simp only[hg];simp-implicitDefEqProofs (disch:=omega) only[go_sem,CF,e1,cz,aJ.len];refine ej n.runs (fun j vs N=>vs=[.ptr f 0,.int .i64 t,.ptr M.length 0,.slice (n.runs.map bM.row) n.pS,.int .i64 n.runs.length,.int .i64 j]/\ed n q aM f h A Q O (M++[.box (l.row aM)]) (lC n q l t) (p6 n q l t (n.runs.drop j) j) N)
  ⟨rfl,ed.start (H.app _) el hp it⟩ ?_ ?_;rotate_left
 . rintro vs N ⟨rfl,ak⟩
   rw[List.drop_length] at ak;simp-implicitDefEqProofs (disch:=omega) only[go_sem,↓bm 5,db];exact ak.done (eb.app f h M _)
 rintro i r vs N an hi ba ⟨rfl,ak⟩;rw[sA an] at ak;simp-implicitDefEqProofs (disch:=omega) only[go_sem,↓bm 5,↓bm 8,↓bm 10,ba,an,fb,is,bM.row];obtain⟨dW,rr⟩:∃dW,dW=N++[.box r.row]:=⟨_,rfl⟩;have m4:ed n q aM f h A Q O (M++[.box (l.row aM)]) (lC n q l t) (rb n q l t r i r.calls 0++p6 n q l t (n.runs.drop (i+1)) (i+1)) dW:=by rw[rr];exact ak.app _
 have kn:dW[N.length]? =some (.box r.row):=by rw[rr];exact fb _ _
 obtain⟨nD,xI⟩:N.length≠f/\N.length≠h:=by
  obtain⟨ea,eo,bl,_⟩:=ak;obtain⟨_,bC,ca⟩:=bl.vb;exact⟨by omega,by omega⟩
 simp only[bM.row] at rr;rw[<-rr];clear rr;generalize N.length=p at*;have HU:=(ok.ok.runs.2 i r an).2.2.2.2.2.1.2.1;have om:=ok.runs;refine ej r.calls (fun k vs eF=>vs=[.ptr f 0,.int .i64 t,.ptr M.length 0,.int .i64 i,.ptr p 0,.slice (n.runs.map bM.row) n.pS,.int .i64 n.runs.length,.int .i64 i,.slice (r.calls.map bG.row) r.tag,.int .i64 r.calls.length,.int .i64 k]/\eF[p]? =some (.box r.row)/\
  ed n q aM f h A Q O (M++[.box (l.row aM)]) (lC n q l t) (rb n q l t r i (r.calls.drop k) k++p6 n q l t (n.runs.drop (i+1)) (i+1)) eF) ⟨rfl,kn,m4⟩ ?_ ?_;rotate_left
 . rintro vs eF ⟨rfl,ko,hK⟩
   rw[List.drop_length] at hK;simp-implicitDefEqProofs (disch:=omega) only[go_sem,↓bm 12,↓bm 36,db];exact cS hi ⟨rfl,hK⟩
 rintro k c vs eF ar ao fi ⟨rfl,ko,hK⟩;rw[sA ar] at hK;obtain⟨nl,no,md,k8⟩:=hK.st;have ii:eF[M.length]? =some (.box (l.row aM)):=k8 _ _ (fW _) (by omega) (by omega);have UG:=fun L=>bY ii L;have Nr:=fun L=>bY ko L;have fd:∀(b:Bool),wQ n l t r i k c=b->(if b then o3 n q l i k else[])++(rb n q l t r i (r.calls.drop (k+1)) (k+1)++p6 n q l t (n.runs.drop (i+1)) (i+1))=rb n q l t r i (c::r.calls.drop (k+1)) k++p6 n q l t (n.runs.drop (i+1)) (i+1):=by
  intro b aj;rw[<-en];subst aj;rfl
 simp only[bM.row] at ko Nr;simp-implicitDefEqProofs (disch:=omega) only[go_sem,↓bm 12,↓bm 15,fi,ar,fb,is,bG.row];obtain⟨gE,pf⟩:∃gE,gE=eF++[.box c.row]:=⟨_,rfl⟩;have dx:gE[p]? =some (.box r.row):=by rw[pf];simp only[bM.row];exact Nr _
 have dm:gE[M.length]? =some (.box (l.row aM)):=by rw[pf];exact UG _
 have hc:gE[eF.length]? =some (.box c.row):=by rw[pf];exact fb _ _
 have iJ:=hK.app [.box c.row];rw[<-pf] at iJ;simp only[bG.row] at pf hc;rw[<-pf];clear pf UG Nr ii ko k8 md hK;simp only[bM.row] at dx;have skip:wQ n l t r i k c=false->ed n q aM f h A Q O (M++[.box (l.row aM)]) (lC n q l t) (rb n q l t r i (r.calls.drop (k+1)) (k+1)++p6 n q l t (n.runs.drop (i+1)) (i+1)) gE:=fun aj=>by
  rw[<-fd _ aj] at iJ;exact iJ
 have uL:wQ n l t r i k c=true->ed n q aM f h A Q O (M++[.box (l.row aM)]) (lC n q l t) (o3 n q l i k++(rb n q l t r i (r.calls.drop (k+1)) (k+1)++p6 n q l t (n.runs.drop (i+1)) (i+1))) gE:=fun aj=>by
  have:=fd _ aj;rw[if_pos rfl] at this;rw[this];exact iJ
 simp only[wQ] at skip uL;simp-implicitDefEqProofs (disch:=omega) only[go_sem,↓bm 17,dx];refine ck (fun aT=>?_) (fun aT=>?_)
 . simp-implicitDefEqProofs (disch:=omega) only[go_sem,↓bm 26]
   exact cS ao ⟨rfl,dx,skip (by rw[aT];rfl)⟩
 simp-implicitDefEqProofs (disch:=omega) only[go_sem,hc];refine ck (fun a2=>?_) (fun a2=>?_);rotate_left
 . simp-implicitDefEqProofs (disch:=omega) only[go_sem,↓bm 26]
   exact cS ao ⟨rfl,dx,skip (by rw[aT,a2];rfl)⟩
 simp-implicitDefEqProofs (disch:=omega) only[go_sem,hc,dm,oj];refine a5 (fun bJ=>?_) (fun bJ=>?_);rotate_left
 . simp-implicitDefEqProofs (disch:=omega) only[go_sem,↓bm 26]
   exact cS ao ⟨rfl,dx,skip (by rw[aT,a2,decide_eq_false bJ];rfl)⟩
 simp-implicitDefEqProofs (disch:=omega) only[go_sem,dx];refine a5 (fun c8=>?_) (fun c8=>?_)
 . simp-implicitDefEqProofs (disch:=omega) only[go_sem,↓bm 26]
   exact cS ao ⟨rfl,dx,skip (by rw[aT,a2,decide_eq_true bJ,decide_eq_true c8];rfl)⟩
 simp-implicitDefEqProofs (disch:=omega) only[go_sem,↓bm 21,hc];refine a5 (fun eI=>?_) (fun eI=>?_)
 . simp-implicitDefEqProofs (disch:=omega) only[go_sem,↓bm 19,dm,aJ.len,jg]
   refine ed.call (uL (by rw[aT,a2,decide_eq_true bJ,decide_eq_false c8,decide_eq_true eI];rfl)) (fun x ad=>ag.lw.base (Lz x ad)) (fun ea eo bl jC c2 dw=>QU bl ok aD b7 jC l ag.lw ag.a3 ag.OD ag.fL ag.rS an ar c2 dw) fun p0 cr jZ=>?_;simp-implicitDefEqProofs (disch:=omega) only[go_sem,↓bm 26];exact cS ao ⟨rfl,cr _ _ dx nD xI,jZ⟩
 simp-implicitDefEqProofs (disch:=omega) only[go_sem,hc,dm,UV];refine a5 (fun eZ=>?_) (fun eZ=>?_);rotate_left
 . simp-implicitDefEqProofs (disch:=omega) only[go_sem,↓bm 26]
   exact cS ao ⟨rfl,dx,skip (by rw[aT,a2,decide_eq_true bJ,decide_eq_false c8,decide_eq_false eI,decide_eq_false eZ];rfl)⟩
 simp-implicitDefEqProofs (disch:=omega) only[go_sem,dm,aJ.len,jg];obtain⟨aQ1,aQ5,aKh,_⟩:=iJ.st;refine ew (aLJ aKh (kb ok.ch (by omega)) l (i:Int) (k:Int)) ?_;rintro v p0 ⟨rfl,G,rfl⟩;generalize UH:JT n l (i:Int) (k:Int)=El at*;cases El with
 |false=>
  simp-implicitDefEqProofs (disch:=omega) only[go_sem,↓bm 26];exact cS ao ⟨rfl,bY dx G,(skip (by rw[aT,a2,decide_eq_true bJ,decide_eq_false c8,decide_eq_false eI,decide_eq_true eZ];rfl)).app G⟩
 |true=>
  have aNF:=bY dm G;simp-implicitDefEqProofs (disch:=omega) only[go_sem,↓bm 19,aNF,aJ.len,jg];refine ed.call ((uL (by rw[aT,a2,decide_eq_true bJ,decide_eq_false c8,decide_eq_false eI,decide_eq_true eZ];rfl)).app G) (fun x ad=>ag.lw.base (Lz x ad)) (fun ea eo bl jC c2 dw=>QU bl ok aD b7 jC l ag.lw ag.a3 ag.OD ag.fL ag.rS an ar c2 dw) fun p0 cr jZ=>?_;simp-implicitDefEqProofs (disch:=omega) only[go_sem,↓bm 26];exact cS ao ⟨rfl,cr _ _ (bY dx G) nD xI,jZ⟩
end Go.aL.C
namespace Go.aL.C
open Go.aL
def AV(l:aJ)(p:Path):aJ:=
 {l with place:=⟨2,p.dst,0,0,⟨0,0,0,0⟩⟩,time:=l.time+p.dL,walk:=l.walk+p.dL,a3:=l.a3++[⟨false,0,0,0,l.place.stop,p.dst,l.time,l.time+p.dL,false⟩],tag:=.cx}
def yP(q:Query)(l:aJ)(p:Path):Bool:=decide (p.src=l.place.stop)&&(!decide (q.walk<l.walk+p.dL)&&!decide (3155932800<l.time+p.dL))
def yO(q:Query)(l:aJ)(p:Path):List aJ:=if yP q l p then[AV l p] else[]
def se(q:Query)(l:aJ):List Path->List aJ
 |[]=>[]
 |p::cX=>yO q l p++se q l cX
def uJ(n:Net)(q:Query)(l:aJ):List aJ:=se q l n.paths
theorem Yd{n:Net}{q:Query}{aM:bp}{f h:Nat}{A Q:List aJ}{O:List de}{M:Mem}(H:cF n q aM f h A Q O M)(ok:f4 n)(aD:aM.wf)(b7:aM.ia)(el:∀o∈A,hk o)(l:aJ)(ag:q3 l)
 (hp:A.length+(uJ n q l).length<=1000000000000)(it:Q.length+(uJ n q l).length<=1000000000000):
 b9 au D5 [.ptr f 0,.agg (l.row aM)] M (q0 n q aM f h A Q O M (uJ n q l)):=by
 obtain⟨m,o,E,aa,af,az⟩:=H.box;obtain⟨_,Dd,pm⟩:=H.vb;have cz:=fun L=>bY aa L;have fW:=fun L=>eT M L;simp only[iY] at cz;have fb:∀(K:Mem)(B:a1),(K++[B])[K.length]? =some B:=fun K B=>by simp
 have is:∀(K:Mem)(B X:a1),(K++[B]).set K.length X=K++[X]:=fun K B X=>by simp
 have jg:∀l:aJ,(l.row aM).take 13=l.row aM:=fun _=>rfl;have aT:(l.row aM)[1]? =some (.int .i64 l.place.stop):=rfl;have lH:(l.row aM)[8]? =some (.int .i64 l.time):=rfl;have Hu:(l.row aM)[10]? =some (.int .i64 l.walk):=rfl;have qa:(l.row aM)[12]? =some (.slice (l.a3.map cd.row) l.tag):=rfl;have mb:=ok.paths;refine hl TE (by simp[CO]) ?_;simp only[hg];simp-implicitDefEqProofs (disch:=omega) only[go_sem,CO,e1,cz,aJ.len];refine ej n.paths (fun j vs N=>vs=[.ptr f 0,.ptr M.length 0,.slice (n.paths.map Path.row) n.qI,.int .i64 n.paths.length,.int .i64 j]/\ed n q aM f h A Q O (M++[.box (l.row aM)]) (uJ n q l) (se q l (n.paths.drop j)) N)
  ⟨rfl,ed.start (H.app _) el hp it⟩ ?_ ?_;rotate_left
 . rintro vs N ⟨rfl,ak⟩
   rw[List.drop_length] at ak;simp-implicitDefEqProofs (disch:=omega) only[go_sem,↓bm 5,db];exact ak.done (eb.app f h M _)
 rintro i p vs N ay hi ba ⟨rfl,ak⟩;rw[sA ay] at ak;obtain⟨H3,m4⟩:0<=p.dL/\p.dL<=86400:=by
  have:=(ok.ok.sound i p ay).1.2.2;omega
 obtain⟨⟨_,_⟩,⟨_,_⟩⟩:=And.intro ag.time ag.walk;have gL:IntKind.i64.wrap (l.walk+p.dL)=l.walk+p.dL:=n1 _ (by omega) (by omega);have kS:IntKind.i64.wrap (l.time+p.dL)=l.time+p.dL:=n1 _ (by omega) (by omega);obtain⟨nl,no,md,k8⟩:=ak.st;obtain⟨mK,us,E2,bI,_⟩:=md.box;have ii:N[M.length]? =some (.box (l.row aM)):=k8 _ _ (fW _) (by omega) (by omega);have fd:∀(b:Bool),yP q l p=b->(if b then[AV l p] else[])++se q l (n.paths.drop (i+1))=se q l (p::n.paths.drop (i+1)):=by
  intro b aj;subst aj;rfl
 have skip:yP q l p=false->ed n q aM f h A Q O (M++[.box (l.row aM)]) (uJ n q l) (se q l (n.paths.drop (i+1))) N:=fun aj=>by
  rw[<-fd _ aj] at ak;exact ak
 have uL:yP q l p=true->ed n q aM f h A Q O (M++[.box (l.row aM)]) (uJ n q l) ([AV l p]++se q l (n.paths.drop (i+1))) N:=fun aj=>by
  have:=fd _ aj;rw[if_pos rfl] at this;rw[this];exact ak
 simp only[yP] at skip uL;have gT:=fun L=>bY ii L;have EF:=fun L=>bY bI L;simp only[iY] at EF;simp-implicitDefEqProofs (disch:=omega) only[go_sem,↓bm 5,↓bm 8,↓bm 10,ba,ay,fb,is,Path.row,gT,aT];refine a5 (fun a4=>?_) (fun a4=>?_);rotate_left
 . simp-implicitDefEqProofs (disch:=omega) only[go_sem,↓bm 32]
   exact cS hi ⟨rfl,(skip (by rw[decide_eq_false a4];rfl)).app _⟩
 simp-implicitDefEqProofs (disch:=omega) only[go_sem,fb,gT,Hu,EF,e1,gL];refine a5 (fun bd=>?_) (fun bd=>?_)
 . simp-implicitDefEqProofs (disch:=omega) only[go_sem,↓bm 32]
   exact cS hi ⟨rfl,(skip (by rw[decide_eq_true a4,decide_eq_true bd];rfl)).app _⟩
 simp-implicitDefEqProofs (disch:=omega) only[go_sem,fb,gT,lH,kS];refine a5 (fun e3=>?_) (fun e3=>?_)
 . simp-implicitDefEqProofs (disch:=omega) only[go_sem,↓bm 32]
   exact cS hi ⟨rfl,(skip (by rw[decide_eq_true a4,decide_eq_false bd,decide_eq_true e3];rfl)).app _⟩
 have hK:=(uL (by rw[decide_eq_true a4,decide_eq_false bd,decide_eq_false e3];rfl));obtain⟨cZ,fc⟩:∃cZ:aJ,cZ={l with place:=⟨2,p.dst,0,0,⟨0,0,0,0⟩⟩}:=⟨_,rfl⟩;obtain⟨e4,gP⟩:∃e4:aJ,e4={cZ with time:=l.time+p.dL}:=⟨_,rfl⟩;obtain⟨mJ,tX⟩:∃mJ:aJ,mJ={e4 with walk:=l.walk+p.dL}:=⟨_,rfl⟩;have t1:((((((((l.row aM).set 0 (.int .i64 2)).set 1 (.int .i64 p.dst)).set 2 (.int .i64 0)).set 3 (.int .i64 0)).set 4 (.int .i64 0)).set 5 (.int .i64 0)).set 6 (.int .i64 0)).set 7 (.int .i64 0)=cZ.row aM:=by rw[fc];rfl
 have t2:(cZ.row aM).set 8 (.int .i64 (l.time+p.dL))=e4.row aM:=by rw[gP];rfl
 have t3:(e4.row aM).set 10 (.int .i64 (l.walk+p.dL))=mJ.row aM:=by rw[tX];rfl
 have t4:(mJ.row aM).set 12 (.slice ((l.a3++[(⟨false,0,0,0,l.place.stop,p.dst,l.time,l.time+p.dL,false⟩:cd)]).map cd.row) .cx)=(AV l p).row aM:=by rw[tX,gP,fc];rfl
 have aG6:(mJ.row aM)[8]? =some (.int .i64 (l.time+p.dL)):=by rw[tX,gP];rfl
 have qu:=Pv l.a3 l.tag ⟨false,0,0,0,l.place.stop,p.dst,l.time,l.time+p.dL,false⟩ (by have:=ag.a3;omega);simp only[cd.row] at qu;have AX:=fun L=>eT N L;have h6:=fun L=>i1 N L;have EU:=fun L=>jM N L;have qT:=fun L=>lj N L;clear fc gP tX;simp-implicitDefEqProofs (disch:=omega) only[go_sem,↓bm 12,↓bm 14,↓bm 16,↓bm 18,↓bm 20,AX,h6,qT,en,gT,aJ.len,aJ.cell,jg,AK,t1,lH,Hu,gL,kS,t2,t3,qa,aG6,aT];first|refine b1 (qu) ?_|refine bV (qu) ?_
 simp-implicitDefEqProofs (disch:=omega) only[go_sem,↓bm 22,h6,qT,aJ.len,jg,t4];refine ed.call (hK.app _) (fun x ad=>by rw[gZ.1 ad];exact ag.lw.base rfl) (fun ea eo bl jC c2 dw=>?_) fun p0 cr jZ=>?_
 . refine b9.mono (OM bl aD b7 jC (AV l p) (ag.lw.base rfl) c2 dw) ?_
   rintro v du ⟨rfl,cr,c6,cO,bC,ca⟩;exact⟨rfl,cr,c6,cO,bC,gh.one ca⟩
 simp-implicitDefEqProofs (disch:=omega) only[go_sem,↓bm 32];exact cS hi ⟨rfl,jZ⟩
end Go.aL.C
namespace Go.aL.C
open Go.aL
def Hx(n:Net)(l:aJ)(i:Nat):Bool:=match n.runs[i]? with
 |some r=>(match r.calls[0]? with|some c=>!r.gone&&decide (l.time<=c.cf)|none=>false)
 |none=>false
def oN(n:Net)(l:aJ)(x:dG):Bool:=x.stay&&(decide (x.src=l.place.run)&&(decide (x.h5=l.place.cm)&&Hx n l x.dst.toNat))
def yC(n:Net)(l:aJ)(x:dG):List aJ:=if oN n l x then ng n l x.dst.toNat 0 true l.place.cY else[]
def td(n:Net)(l:aJ):List dG->List aJ
 |[]=>[]
 |x::xs=>yC n l x++td n l xs
def tc(n:Net)(l:aJ):List aJ:=td n l n.ch
theorem aPm{n:Net}{q:Query}{aM:bp}{f h:Nat}{A Q:List aJ}{O:List de}{M:Mem}(H:cF n q aM f h A Q O M)(ok:f4 n)(aD:aM.wf)(b7:aM.ia)(el:∀o∈A,hk o)(l:aJ)(ag:q3 l)
 (hp:A.length+(tc n l).length<=1000000000000)(it:Q.length+(tc n l).length<=1000000000000):
 b9 au Je [.ptr f 0,.agg (l.row aM)] M (q0 n q aM f h A Q O M (tc n l)):=by
 obtain⟨m,o,E,aa,af,az⟩:=H.box;obtain⟨_,Dd,pm⟩:=H.vb;have cz:=fun L=>bY aa L;have fW:=fun L=>eT M L;simp only[iY] at cz;have fb:∀(K:Mem)(B:a1),(K++[B])[K.length]? =some B:=fun K B=>by simp
 have is:∀(K:Mem)(B X:a1),(K++[B]).set K.length X=K++[X]:=fun K B X=>by simp
 have jg:∀l:aJ,(l.row aM).take 13=l.row aM:=fun _=>rfl;have KE:((l.row aM).drop 4).take 4=l.place.cY.row:=rfl;have a2:(l.row aM)[2]? =some (.int .i64 l.place.run):=rfl;have bJ:(l.row aM)[3]? =some (.int .i64 l.place.cm):=rfl;have lH:(l.row aM)[8]? =some (.int .i64 l.time):=rfl;have gO:=ok.ch;refine hl TA (by simp[CK]) ?_;simp only[hg];simp-implicitDefEqProofs (disch:=omega) only[go_sem,CK,e1,cz,aJ.len];refine ej n.ch (fun j vs N=>vs=[.ptr f 0,.ptr M.length 0,.slice (n.ch.map dG.row) n.lc,.int .i64 n.ch.length,.int .i64 j]/\ed n q aM f h A Q O (M++[.box (l.row aM)]) (tc n l) (td n l (n.ch.drop j)) N)
  ⟨rfl,ed.start (H.app _) el hp it⟩ ?_ ?_;rotate_left
 . rintro vs N ⟨rfl,ak⟩
   rw[List.drop_length] at ak;simp-implicitDefEqProofs (disch:=omega) only[go_sem,↓bm 5,db];exact ak.done (eb.app f h M _)
 rintro i x vs N ad hi ba ⟨rfl,ak⟩;rw[sA ad] at ak;have vu:=ok.ok.ch.2 i x ad;obtain⟨ig,d1⟩:=vu.dst;obtain⟨u6,g2⟩:∃u6:Nat,x.dst=u6:=⟨x.dst.toNat,by omega⟩;have HM:x.dst.toNat=u6:=by omega
 obtain⟨r,an⟩:∃r,n.runs[u6]? =some r:=⟨n.runs[u6]'(by omega),by simp⟩;have dg:=(ok.ok.runs.2 u6 r an).2.2.2.2.2.1.1;obtain⟨c,ar⟩:∃c,r.calls[0]? =some c:=⟨r.calls[0]'(by omega),by simp⟩;obtain⟨nl,no,md,k8⟩:=ak.st;obtain⟨mK,us,E2,bI,_⟩:=md.box;have ii:N[M.length]? =some (.box (l.row aM)):=k8 _ _ (fW _) (by omega) (by omega);have fd:∀(b:Bool),oN n l x=b->(if b then ng n l u6 0 true l.place.cY else[])++td n l (n.ch.drop (i+1))=td n l (x::n.ch.drop (i+1)):=by
  intro b aj;subst aj;rw[<-HM];rfl
 have skip:oN n l x=false->ed n q aM f h A Q O (M++[.box (l.row aM)]) (tc n l) (td n l (n.ch.drop (i+1))) N:=fun aj=>by
  rw[<-fd _ aj] at ak;exact ak
 have uL:oN n l x=true->ed n q aM f h A Q O (M++[.box (l.row aM)]) (tc n l) (ng n l u6 0 true l.place.cY++td n l (n.ch.drop (i+1))) N:=fun aj=>by
  have:=fd _ aj;rw[if_pos rfl] at this;rw[this];exact ak
 simp only[oN,Hx,HM,an,ar] at skip uL;have gT:=fun L=>bY ii L;have EF:=fun L=>bY bI L;simp only[iY] at EF;simp-implicitDefEqProofs (disch:=omega) only[go_sem,↓bm 5,↓bm 8,↓bm 10,ba,ad,fb,is,dG.row];refine ck (fun a4=>?_) (fun a4=>?_);rotate_left
 . simp-implicitDefEqProofs (disch:=omega) only[go_sem,↓bm 22]
   exact cS hi ⟨rfl,(skip (by rw[a4];rfl)).app _⟩
 simp-implicitDefEqProofs (disch:=omega) only[go_sem,fb,gT,a2];refine a5 (fun bd=>?_) (fun bd=>?_);rotate_left
 . simp-implicitDefEqProofs (disch:=omega) only[go_sem,↓bm 22]
   exact cS hi ⟨rfl,(skip (by rw[a4,decide_eq_false bd];rfl)).app _⟩
 simp-implicitDefEqProofs (disch:=omega) only[go_sem,fb,gT,bJ];refine a5 (fun e3=>?_) (fun e3=>?_);rotate_left
 . simp-implicitDefEqProofs (disch:=omega) only[go_sem,↓bm 22]
   exact cS hi ⟨rfl,(skip (by rw[a4,decide_eq_true bd,decide_eq_false e3];rfl)).app _⟩
 have AX:=fun L=>eT N L;have h6:=fun L=>i1 N L;have EU:=fun L=>jM N L;have qT:=fun L=>lj N L;simp-implicitDefEqProofs (disch:=omega) only[go_sem,↓bm 12,AX,h6,qT,en,EF,e1,g2,an,bM.row];simp-implicitDefEqProofs (disch:=omega) only[go_sem,↓bm 16,h6];refine ck (fun l4=>?_) (fun l4=>?_)
 . simp-implicitDefEqProofs (disch:=omega) only[go_sem,↓bm 22]
   exact cS hi ⟨rfl,(skip (by rw[a4,decide_eq_true bd,decide_eq_true e3,l4];rfl)).app _⟩
 simp-implicitDefEqProofs (disch:=omega) only[go_sem,h6,ar,bG.row,gT,lH];refine a5 (fun mY=>?_) (fun mY=>?_);rotate_left
 . simp-implicitDefEqProofs (disch:=omega) only[go_sem,↓bm 22]
   exact cS hi ⟨rfl,(skip (by rw[a4,decide_eq_true bd,decide_eq_true e3,l4,decide_eq_false mY];rfl)).app _⟩
 simp-implicitDefEqProofs (disch:=omega) only[go_sem,↓bm 14,AX,gT,aJ.len,jg,KE];refine ed.call ((uL (by rw[a4,decide_eq_true bd,decide_eq_true e3,l4,decide_eq_true mY];rfl)).app _) (fun y aE=>ag.lw.base (Pb y aE)) (fun ea eo bl jC c2 dw=>KF bl ok aD b7 jC l ag.lw ag.a3 an ar true l.place.cY c2 dw) fun p0 cr jZ=>?_;simp-implicitDefEqProofs (disch:=omega) only[go_sem,↓bm 22];exact cS hi ⟨rfl,jZ⟩
end Go.aL.C
namespace Go.aL.C
open Go.aL
theorem QO{n:Net}{q:Query}{l:aJ}{t:Int}{r:bM}{i:Nat}:∀{cs:List bG}{k:Nat},∀x∈rb n q l t r i cs k,x.base=l.base
 |[],_,x,ad=>by cases ad
 |c::cs,k,x,ad=>(g9.1 ad).elim (acD x) (QO x)
theorem Fx{n:Net}{q:Query}{l:aJ}{t:Int}:∀{rs:List bM}{i:Nat},∀x∈p6 n q l t rs i,x.base=l.base
 |[],_,x,ad=>by cases ad
 |r::rs,i,x,ad=>(g9.1 ad).elim (QO x) (Fx x)
theorem Pt{q:Query}{l:aJ}:∀{cX:List Path},∀x∈se q l cX,x.base=l.base
 |[],x,ad=>by cases ad
 |p::cX,x,ad=>by
  rcases g9.1 ad with ad|ad
  . unfold yO at ad
    split at ad
    . rw[gZ.1 ad];rfl
    . cases ad
  . exact Pt x ad
theorem Xj{n:Net}{l:aJ}:∀{cX:List dG},∀x∈td n l cX,x.base=l.base
 |[],x,ad=>by cases ad
 |p::cX,x,ad=>by
  rcases g9.1 ad with ad|ad
  . unfold yC at ad
    split at ad
    . exact Pb x ad
    . cases ad
  . exact Xj x ad
def y_(n:Net)(l:aJ):Bool:=match(ki n l.place.run.toNat)[l.place.cm.toNat]? with
 |some c=>c.fC
 |none=>false
def lB(l:aJ):aJ:={l with base:=l.place.cY::l.base}
def nb(n:Net)(q:Query)(l:aJ)(t:Int):List aJ:=lC n q l t++uJ n q l
def ut(n:Net)(q:Query)(l:aJ):List aJ:=if y_ n l then nb n q (lB l) (l.time+sv n l.place.stop) else[]
def w_(n:Net)(q:Query)(l:aJ):List aJ:=tc n l++ut n q l
def k7(n:Net)(q:Query)(l:aJ):List de:=if l.place.stop=q.dst then tB n q l else[]
def tz(n:Net)(q:Query)(l:aJ):List de:=if y_ n l then k7 n q l else[]
def nd(n:Net)(q:Query)(l:aJ):Int:=if q.Bj then l.time+sv n l.place.stop else l.time
def mL(n:Net)(q:Query)(l:aJ):List aJ:=
 if l.place.kind=1 then w_ n q l else if l.place.kind=2 then lC n q l l.time else nb n q l (nd n q l)
def pT(n:Net)(q:Query)(l:aJ):List de:=if l.place.kind=1 then tz n q l else k7 n q l
theorem y2.wf{x:cd}(h:y2 x):x.wf:=by
 obtain⟨⟨_,_⟩,_,_⟩:=h;exact⟨by unfold ev;omega,by unfold ev;omega⟩
section
variable{n:Net}{q:Query}{aM:bp}{f h:Nat}{A Q:List aJ}{O:List de}{gD M N du:Mem}{full dB L:List aJ}
theorem ed.aQv(H:ed n q aM f h A Q O gD full dB N)(cr:eb f h M gD):ed n q aM f h A Q O M full dB N:=by
 obtain⟨ea,eo,ak,nt,el⟩:=H;exact⟨ea,eo,ak,cr.trans nt,el⟩
theorem ed.uE(H:ed n q aM f h A Q O gD full dB N){p:Nat}{cs:List V}(ay:N[p]? =some (.box cs))(MD:gD.length<=p)(nD:p≠f)(xI:p≠h)(B:a1):ed n q aM f h A Q O gD full dB (N.set p B):=by
 obtain⟨ea,eo,ak,nt,el⟩:=H;exact⟨ea,eo,ak.uE ay nD xI B,nt.uE MD B,el⟩
theorem ed.finish{K:V->Mem->Prop}(H:ed n q aM f h A Q O gD full dB N)(aK:n.wf)(ok:f4 n)(l:aJ)(ag:q3 l)(aj:O.length+1<=1000000000000)
 (ao:∀du,eb f h N du->ed n q aM f h A Q (O++tB n q l) gD full dB du->K (.tuple []) du):@qX au xZ [.ptr f 0,.agg (l.row aM)] N ⟨K⟩:=by
 obtain⟨ea,eo,ak,cr,el⟩:=H;refine ew (aOH ak aK ok l (by have:=ag.a3;omega) (fun x ad=>(ag.rS x ad).wf) aj) ?_;rintro v du ⟨rfl,CQ,la⟩;exact ao du CQ ⟨ea,eo,la,cr.trans CQ,el⟩
end
theorem R8{n:Net}{q:Query}{aM:bp}{f h:Nat}{A Q:List aJ}{O:List de}{gD N:Mem}{full:List aJ}(ok:f4 n)(aD:aM.wf)(b7:aM.ia)(l:aJ)(ag:q3 l)(HF:l.base.length<8)(pz:l.place.cY.wf)
 {i k:Nat}{r:bM}{c:bG}(an:n.runs[i]? =some r)(ar:r.calls[k]? =some c)(fj:l.place.stop=c.stop)(H:ed n q aM f h A Q O gD full (nb n q (lB l) (l.time+sv n l.place.stop)) N)
 {p:Nat}(ay:N[p]? =some (.box (l.row aM)))(MD:gD.length<=p)(nD:p≠f)(xI:p≠h)(s:aI)(Ex:aX s 0=.ptr f 0)(sY:aX s 3=.ptr p 0)(P:Exit->aI->Mem->Prop)(nx:∀du,ed n q aM f h A Q O gD full [] du->P .normal [] du):dn au QZ P s N:=by
 have jg:∀l:aJ,(l.row aM).take 13=l.row aM:=fun _=>rfl;have KE:((l.row aM).drop 4).take 4=l.place.cY.row:=rfl;have aT:(l.row aM)[1]? =some (.int .i64 l.place.stop):=rfl;have Hv:(l.row aM)[11]? =some (gN aM l.base):=rfl;obtain⟨s,ak,s0,_,_,_,s1,dq,wc⟩:=Fz ok an ar;rw[<-fj] at ak s0 s1;obtain⟨⟨_,_⟩,⟨_,_⟩⟩:=And.intro ag.time ag.walk;have aHw:=aba aM l.place.cY aD b7 pz ag.lw.1 HF;simp-implicitDefEqProofs (disch:=omega) only[go_sem,↓bm 11,↓bm 23,sY,ay,aJ.len,Hv,KE];refine fw aHw ?_ (by simp only[cT,Ht];rfl);rintro v rfl;obtain⟨cs,fd⟩:∃cs,gN aM (l.place.cY::l.base)=.c7 cs:=⟨_,zw ..⟩;obtain⟨tf,qR⟩:=Mq aM (l.place.cY::l.base);have t1:(l.row aM).set 11 (gN aM (l.place.cY::l.base))=(lB l).row aM:=rfl;rw[fd] at tf qR t1;have HG:q3 (lB l):=⟨⟨fun x ad=>(jt.1 ad).elim (fun e=>e▸pz) (ag.lw.1 x),by show l.base.length+1<=8;omega⟩,ag.a3,ag.fL,ag.OD,ag.rS,ag.time,ag.walk⟩;obtain⟨eF,rt⟩:∃eF,eF=N.set p (.box ((lB l).row aM)):=⟨_,rfl⟩;have hK:ed n q aM f h A Q O gD full (nb n q (lB l) (l.time+sv n l.place.stop)) eF:=by rw[rt];exact H.uE ay MD nD xI _
 have ko:eF[p]? =some (.box ((lB l).row aM)):=by rw[rt];exact eB (bo.1 ay).1
 have lH:((lB l).row aM)[8]? =some (.int .i64 l.time):=rfl;have tH:((lB l).row aM)[1]? =some (.int .i64 l.place.stop):=rfl;have gL:IntKind.i64.wrap (l.time+s.change)=l.time+s.change:=n1 _ (by omega) (by omega);obtain⟨nl,no,md,_⟩:=hK.st;obtain⟨mK,us,E2,bI,_⟩:=md.box;simp only[iY] at bI;simp-implicitDefEqProofs (disch:=omega) only[go_sem,↓bm 13,↓bm 15,Ex,sY,ay,fd,aJ.len,t1];rw[<-rt];simp-implicitDefEqProofs (disch:=omega) only[go_sem,↓bm 17,e1,ko,bI,aJ.len,jg,lH,tH,ak,Stop.row,gL];rw[<-s1];refine ed.call hK (fun x ad=>HG.lw.base (Fx x ad)) (fun ea eo bl jC c2 dw=>Ly bl ok aD b7 jC (lB l) HG _ c2 dw) fun gE cr iJ=>?_;have oi:=cr _ _ ko nD xI;simp-implicitDefEqProofs (disch:=omega) only[go_sem,↓bm 19,oi,aJ.len,jg];rw[<-fA (uJ n q (lB l))] at iJ;refine ed.call iJ (fun x ad=>HG.lw.base (Pt x ad)) (fun ea eo bl jC c2 dw=>Yd bl ok aD b7 jC (lB l) HG c2 dw) fun p0 Hs jZ=>?_;exact nx p0 jZ
theorem aEy{n:Net}{q:Query}{aM:bp}{f h:Nat}{A Q:List aJ}{O:List de}{M:Mem}(H:cF n q aM f h A Q O M)(aK:n.wf)(ok:f4 n)(aD:aM.wf)(b7:aM.ia)(el:∀o∈A,hk o)(l:aJ)(ag:q3 l)(HF:l.base.length<8)(pz:l.place.cY.wf)
 {i k:Nat}{r:bM}{c:bG}(an:n.runs[i]? =some r)(ar:r.calls[k]? =some c)(rJ:l.place.run=i)(HX:l.place.cm=k)(fj:l.place.stop=c.stop)
 (hp:A.length+(w_ n q l).length<=1000000000000)(it:Q.length+(w_ n q l).length<=1000000000000)(ru:O.length+1<=1000000000000):
 b9 au Jb [.ptr f 0,.agg (l.row aM)] M (q0 n q aM f h A Q (O++tz n q l) M (w_ n q l)):=by
 obtain⟨_,Dd,pm⟩:=H.vb;have fW:=fun L=>eT M L;have jg:∀l:aJ,(l.row aM).take 13=l.row aM:=fun _=>rfl;have KE:((l.row aM).drop 4).take 4=l.place.cY.row:=rfl;have aT:(l.row aM)[1]? =some (.int .i64 l.place.stop):=rfl;have a2:(l.row aM)[2]? =some (.int .i64 (i:Int)):=by rw[<-rJ];rfl
 have bJ:(l.row aM)[3]? =some (.int .i64 (k:Int)):=by rw[<-HX];rfl
 have Hv:(l.row aM)[11]? =some (gN aM l.base):=rfl;obtain⟨s,ak,s0,_,_,_,s1,dq,wc⟩:=Fz ok an ar;have jn:y_ n l=c.fC:=by simp only[y_,ki,rJ,HX,kU,an,ar]
 obtain⟨⟨_,_⟩,⟨_,_⟩⟩:=And.intro ag.time ag.walk;refine hl Tw (by simp[CG]) ?_;simp only[hg];simp-implicitDefEqProofs (disch:=omega) only[go_sem,CG,fW,aJ.len,jg];have bl:ed n q aM f h A Q O (M++[.box (l.row aM)]) (w_ n q l) (tc n l++ut n q l) (M++[.box (l.row aM)]):=ed.start (H.app _) el hp it;refine ed.call bl (fun x ad=>ag.lw.base (Xj x ad)) (fun ea eo bl jC c2 dw=>aPm bl ok aD b7 jC l ag c2 dw) fun N nt m4=>?_;have ii:N[M.length]? =some (.box (l.row aM)):=nt _ _ (fW _) (by omega) (by omega);obtain⟨nl,no,md,k8⟩:=m4.st;obtain⟨mK,us,E2,bI,_⟩:=md.box;have i8:=bI;simp only[iY] at i8;simp-implicitDefEqProofs (disch:=omega) only[go_sem,↓bm 5,e1,ii,i8,a2,bJ,an,bM.row,ar,bG.row];refine ck (fun a4=>?_) (fun a4=>?_);rotate_left
 . simp-implicitDefEqProofs (disch:=omega) only[go_sem]
   have Np:ut n q l=[]:=by unfold ut;rw[jn,a4];rfl
   rw[Np] at m4;have ad:tz n q l=[]:=by unfold tz;rw[jn,a4];rfl
   rw[ad,fA];exact m4.done (eb.app f h M _)
 have Np:ut n q l=nb n q (lB l) (l.time+sv n l.place.stop):=by unfold ut;rw[jn,a4];rfl
 have ad:tz n q l=k7 n q l:=by unfold tz;rw[jn,a4];rfl
 rw[ad];rw[Np] at m4;have hK:=m4.aQv (eb.app f h M _);simp-implicitDefEqProofs (disch:=omega) only[go_sem,↓bm 9,e1,ii,i8,aT];refine a5 (fun bd=>?_) (fun bd=>?_)
 . simp-implicitDefEqProofs (disch:=omega) only[go_sem,↓bm 7,ii,aJ.len,jg]
   refine ed.finish hK aK ok l ag ru fun eF p_ iJ=>?_;have aJg:=p_ _ _ ii (by omega) (by omega);simp-implicitDefEqProofs (disch:=omega) only[go_sem];refine R8 ok aD b7 l ag HF pz an ar fj iJ aJg (cH _) (by omega) (by omega) _ rfl rfl _ fun p0 jZ=>?_;simp-implicitDefEqProofs (disch:=omega) only[go_sem];rw[show k7 n q l=tB n q l from if_pos bd];exact jZ.done (eb.refl f h M)
 . simp-implicitDefEqProofs (disch:=omega) only[go_sem]
   refine R8 ok aD b7 l ag HF pz an ar fj hK ii (cH _) (by omega) (by omega) _ rfl rfl _ fun p0 jZ=>?_;simp-implicitDefEqProofs (disch:=omega) only[go_sem];rw[show k7 n q l=[] from if_neg bd,fA];exact jZ.done (eb.refl f h M)
end Go.aL.C
namespace Go.aL.C
open Go.aL
structure E7(n:Net)(l:aJ):Prop where
 stop:∃s,n.stops[l.place.stop.toNat]? =some s/\0<=l.place.stop/\sv n l.place.stop=s.change/\0<=s.change/\s.change<=3600
 aR0:l.place.kind=1->l.base.length<8/\l.place.cY.wf/\∃(i k:Nat)(r:bM)(c:bG),n.runs[i]? =some r/\r.calls[k]? =some c/\l.place.run=i/\l.place.cm=k/\l.place.stop=c.stop
theorem aQk{n:Net}{q:Query}{aM:bp}{f h:Nat}{A Q:List aJ}{O:List de}{M:Mem}(H:cF n q aM f h A Q O M)(aK:n.wf)(ok:f4 n)(aD:aM.wf)(b7:aM.ia)(el:∀o∈A,hk o)(l:aJ)(ag:q3 l)(ao:E7 n l)
 (hp:A.length+(mL n q l).length<=1000000000000)(it:Q.length+(mL n q l).length<=1000000000000)(ru:O.length+1<=1000000000000):
 b9 au Jg [.ptr f 0,.agg (l.row aM)] M (q0 n q aM f h A Q (O++pT n q l) M (mL n q l)):=by
 obtain⟨_,Dd,pm⟩:=H.vb;have fW:=fun L=>eT M L;have jg:∀l:aJ,(l.row aM).take 13=l.row aM:=fun _=>rfl;have rp:(l.row aM)[0]? =some (.int .i64 l.place.kind):=rfl;have aT:(l.row aM)[1]? =some (.int .i64 l.place.stop):=rfl;have lH:(l.row aM)[8]? =some (.int .i64 l.time):=rfl;obtain⟨m,o,E,aa,af,az⟩:=H.box;have cz:=fun L=>bY aa L;simp only[iY] at cz;obtain⟨⟨s,ak,s0,s1,dq,wc⟩,Nz⟩:=ao;obtain⟨⟨_,_⟩,⟨_,_⟩⟩:=And.intro ag.time ag.walk;have gL:IntKind.i64.wrap (l.time+s.change)=l.time+s.change:=n1 _ (by omega) (by omega);have wl:=fun L=>H.app L;refine hl TD (by simp[CN]) ?_;simp only[hg];simp-implicitDefEqProofs (disch:=omega) only[go_sem,CN,fW,aJ.len,rp];refine a5 (fun a4=>?_) (fun a4=>?_)
 . rw[show mL n q l=w_ n q l from if_pos a4] at hp it⊢
   rw[show pT n q l=tz n q l from if_pos a4];obtain⟨tf,qR,i,k,r,c,nj,j7,EP,Pj,aP9⟩:=Nz a4;simp-implicitDefEqProofs (disch:=omega) only[go_sem,↓bm 5,fW,aJ.len,jg];refine ew (aEy (H.app _) aK ok aD b7 el l ag tf qR nj j7 EP Pj aP9 hp it ru) ?_;rintro v N ⟨rfl,cr,eU⟩;simp-implicitDefEqProofs (disch:=omega) only[go_sem];exact⟨rfl,(eb.app f h M _).trans cr,eU⟩
 rw[show pT n q l=k7 n q l from if_neg a4];simp-implicitDefEqProofs (disch:=omega) only[go_sem,↓bm 32];refine a5 (fun bd=>?_) (fun bd=>?_)
 . rw[show mL n q l=lC n q l l.time by unfold mL;rw[if_neg a4,if_pos bd]] at hp it⊢
   have bl:ed n q aM f h A Q O (M++[.box (l.row aM)]) (lC n q l l.time) (lC n q l l.time++[]) (M++[.box (l.row aM)]):=by rw[fA];exact ed.start (H.app _) el hp it
   have tail:∀N,ed n q aM f h A Q (O++k7 n q l) (M++[.box (l.row aM)]) (lC n q l l.time) (lC n q l l.time++[]) N->dn au Rf (p5 0 (o8 [] (qz (q0 n q aM f h A Q (O++k7 n q l) M (lC n q l l.time))))) [(0,.ptr f 0),(3,.ptr M.length 0)] N:=by
    intro N dc;obtain⟨nl,no,md,k8⟩:=dc.st;have ii:=k8 _ _ (fW _) (by omega) (by omega);simp-implicitDefEqProofs (disch:=omega) only[go_sem,↓bm 11,ii,aJ.len,jg,lH];refine ed.call dc (fun x ad=>ag.lw.base (Fx x ad)) (fun ea eo bl jC c2 dw=>Ly bl ok aD b7 jC l ag _ c2 dw) fun gE cr iJ=>?_;simp-implicitDefEqProofs (disch:=omega) only[go_sem];exact iJ.done (eb.app f h M _)
   simp-implicitDefEqProofs (disch:=omega) only[go_sem,↓bm 9,↓bm 12,e1,fW,cz,aT];refine a5 (fun e3=>?_) (fun e3=>?_)
   . simp-implicitDefEqProofs (disch:=omega) only[go_sem,↓bm 7,fW,aJ.len,jg]
     refine ed.finish bl aK ok l ag ru fun eF p_ iJ=>?_;simp-implicitDefEqProofs (disch:=omega) only[go_sem];refine tail eF ?_;rw[show k7 n q l=tB n q l from if_pos e3];exact iJ
   . simp-implicitDefEqProofs (disch:=omega) only[go_sem]
     refine tail _ ?_;rw[show k7 n q l=[] from if_neg e3,fA];exact bl
 rw[show mL n q l=nb n q l (nd n q l) by unfold mL;rw[if_neg a4,if_neg bd]] at hp it⊢;have bl:ed n q aM f h A Q O (M++[.box (l.row aM)]) (nb n q l (nd n q l)) (nb n q l (nd n q l)) (M++[.box (l.row aM)]):=ed.start (H.app _) el hp it;have aPJ:∀N,ed n q aM f h A Q (O++k7 n q l) (M++[.box (l.row aM)]) (nb n q l (nd n q l)) (nb n q l (nd n q l)) N->N[M.length]? =some (.box (l.row aM))->
  dn au Rg (p5 0 (o8 [] (qz (q0 n q aM f h A Q (O++k7 n q l) M (nb n q l (nd n q l)))))) [(0,.ptr f 0),(3,.ptr M.length 0),(4,.int .i64 (nd n q l))] N:=by
  intro N dc ii;simp-implicitDefEqProofs (disch:=omega) only[go_sem,↓bm 24,↓bm 27,ii,aJ.len,jg];refine ed.call dc (fun x ad=>ag.lw.base (Fx x ad)) (fun ea eo bl jC c2 dw=>Ly bl ok aD b7 jC l ag _ c2 dw) fun gE cr iJ=>?_;have aJh:=cr _ _ ii (by omega) (by omega);rw[<-fA (uJ n q l)] at iJ;simp-implicitDefEqProofs (disch:=omega) only[go_sem,↓bm 26,aJh,aJ.len,jg];refine ed.call iJ (fun x ad=>ag.lw.base (Pt x ad)) (fun ea eo bl jC c2 dw=>Yd bl ok aD b7 jC l ag c2 dw) fun p0 Hs jZ=>?_;simp-implicitDefEqProofs (disch:=omega) only[go_sem];exact jZ.done (eb.app f h M _)
 have tail:∀N,ed n q aM f h A Q (O++k7 n q l) (M++[.box (l.row aM)]) (nb n q l (nd n q l)) (nb n q l (nd n q l)) N->dn au Rh (p5 0 (o8 [] (qz (q0 n q aM f h A Q (O++k7 n q l) M (nb n q l (nd n q l)))))) [(0,.ptr f 0),(3,.ptr M.length 0)] N:=by
  intro N dc;obtain⟨nl,no,md,k8⟩:=dc.st;have ii:=k8 _ _ (fW _) (by omega) (by omega);obtain⟨mK,us,E2,bI,_⟩:=md.box;simp only[iY] at bI;have t2:=aPJ N dc ii;simp-implicitDefEqProofs (disch:=omega) only[go_sem,↓bm 18,↓bm 22,↓bm 29,ii,lH,e1,bI];refine ck (fun l4=>?_) (fun l4=>?_)
  . have bC:nd n q l=l.time+s.change:=by unfold nd;rw[if_pos l4,s1]
    rw[bC] at t2⊢;simp-implicitDefEqProofs (disch:=omega) only[go_sem,↓bm 20,ii,aT,e1,bI,ak,Stop.row,gL];exact t2
  . have bC:nd n q l=l.time:=by unfold nd;rw[if_neg (by rw[l4];exact Bool.noConfusion)]
    rw[bC] at t2⊢;simp-implicitDefEqProofs (disch:=omega) only[go_sem];exact t2
 simp-implicitDefEqProofs (disch:=omega) only[go_sem,↓bm 16,↓bm 30,e1,fW,cz,aT];refine a5 (fun e3=>?_) (fun e3=>?_)
 . simp-implicitDefEqProofs (disch:=omega) only[go_sem,↓bm 14,fW,aJ.len,jg]
   refine ed.finish bl aK ok l ag ru fun eF p_ iJ=>?_;simp-implicitDefEqProofs (disch:=omega) only[go_sem];refine tail eF ?_;rw[show k7 n q l=tB n q l from if_pos e3];exact iJ
 . simp-implicitDefEqProofs (disch:=omega) only[go_sem]
   refine tail _ ?_;rw[show k7 n q l=[] from if_neg e3,fA];exact bl
end Go.aL.C
namespace Go.aL.C
open Go.aL
theorem cF.J0{n:Net}{q:Query}{aM:bp}{f h:Nat}{A Q cO:List aJ}{O:List de}{M ah:Mem}(H:cF n q aM f h A Q O M)(aG:mU aM ah h cO)(cr:fB h M ah):cF n q aM f h A cO O ah:=by
 obtain⟨cD,g3,Ux⟩:=H.vb;obtain⟨⟨m,o,E,aa,af,az⟩,bh⟩:=H;obtain⟨cs,fd⟩:∃cs,M[h]? =some (.box cs):=by
  obtain⟨c,⟨bI,_⟩|⟨a,ver,l,b6,bI,_⟩⟩:=bh
  . exact⟨_,bI⟩
  . exact⟨_,bI.h⟩
 refine⟨⟨m,o,E,cr _ _ aa cD (by intro _ _ _ e;cases e),af.fN fun i R ver hi=>?_,az.fN ?_ fun i R ver hi=>?_⟩,aG⟩
 . exact cr _ _ hi (fun e=>by rw[e,fd] at hi;cases hi) (by intro _ _ _ e;cases e)
 . rw[az.map];exact cr _ _ az.map (fun e=>by have:=az.map;rw[e,fd] at this;cases this) (by intro _ _ _ e;cases e)
 . exact cr _ _ hi (fun e=>by rw[e,fd] at hi;cases hi) (by intro _ _ _ e;cases e)
def dH{α:Type}(f:α->Nat):List α->Nat
 |[]=>0
 |x::xs=>f x+dH f xs
theorem uH{α:Type}(f:α->Nat):∀a b:List α,dH f (a++b)=dH f a+dH f b
 |[],b=>by simp[dH]
 |x::a,b=>by simp only[List.cons_append,dH,uH f a b];omega
theorem aPy{α:Type}(f:α->Nat){a b:List α}(h:a.Perm b):dH f a=dH f b:=by
 induction h with
 |nil=>rfl
 |cons x _ bu=>simp only[dH,bu]
 |swap x y l=>simp only[dH];omega
 |trans _ _ aa af=>exact aa.trans af
theorem Kz{α:Type}{f:α->Nat}:∀{l:List α},(∀x∈l,1<=f x)->l.length<=dH f l
 |[],_=>cH _
 |x::l,h=>by
  have:=Kz (l:=l) fun y aE=>h y (n3 _ aE);have:=h x (pV ..);simp only[dH,dC];omega
theorem n4.sum{A Q c6 cO:List aJ}{l:aJ}(h:n4 A Q l c6 cO)(w:aJ->Nat):dH w cO<=dH w Q+w l:=by
 rcases h with⟨rfl,rfl,_⟩|⟨rfl,rfl⟩
 . omega
 . rw[uH];simp[dH]
theorem gh.sum(w:aJ->Nat):∀{ls A Q c6 cO:List aJ},gh A Q ls c6 cO->dH w cO<=dH w Q+dH w ls
 |[],A,Q,c6,cO,h=>by obtain⟨rfl,rfl⟩:=h;simp[dH]
 |l::ls,A,Q,c6,cO,⟨ea,eo,aa,af⟩=>by
  have a:=aa.sum w;have b:=gh.sum w af;simp only[dH];omega
theorem gh.diff:∀{ls A Q c6 cO:List aJ},gh A Q ls c6 cO->c6.length+Q.length=A.length+cO.length
 |[],A,Q,c6,cO,h=>by obtain⟨rfl,rfl⟩:=h;rfl
 |l::ls,A,Q,c6,cO,⟨ea,eo,aa,af⟩=>by
  have b:=gh.diff af;rcases aa with⟨rfl,rfl,_⟩|⟨rfl,rfl⟩
  . exact b
  . simp only[dz,List.length_singleton] at b;omega
theorem ti.refl(l:aJ):ti l l:=⟨by omega,by omega,by omega⟩
theorem n4.grow{A Q c6 cO:List aJ}{l:aJ}(h:n4 A Q l c6 cO):(∀o∈A,o∈c6)/\(∀o∈c6,o∈A∨o∈cO)/\(∀o∈Q,o∈cO)/\∃o∈c6,o.place=l.place/\ti o l:=by
 rcases h with⟨rfl,rfl,o,aa,af⟩|⟨rfl,rfl⟩
 . exact⟨fun _ h=>h,fun _ h=>.inl h,fun _ h=>h,o,aa,af⟩
 . refine⟨fun _ h=>List.mem_append_left _ h,fun o aA=>?_,fun _ h=>List.mem_append_left _ h,l,by simp,rfl,ti.refl l⟩
   rcases g9.1 aA with aA|aA
   . exact .inl aA
   . exact .inr (List.mem_append_right _ aA)
theorem gh.grow:∀{ls A Q c6 cO:List aJ},gh A Q ls c6 cO->(∀o∈A,o∈c6)/\(∀o∈c6,o∈A∨o∈cO)/\(∀o∈Q,o∈cO)/\∀l∈ls,∃o∈c6,o.place=l.place/\ti o l
 |[],A,Q,c6,cO,h=>by
  obtain⟨rfl,rfl⟩:=h;exact⟨fun _ h=>h,fun _ h=>.inl h,fun _ h=>h,fun _ h=>by cases h⟩
 |l::ls,A,Q,c6,cO,⟨ea,eo,aa,af⟩=>by
  obtain⟨bW,b8,cN,o,dl,e2⟩:=aa.grow;obtain⟨c2,dw,mW,gj⟩:=gh.grow af;refine⟨fun x ad=>c2 x (bW x ad),fun x ad=>?_,fun x ad=>mW x (cN x ad),fun x ad=>?_⟩
  . rcases dw x ad with h|h
    . exact(b8 x h).imp_right (mW x)
    . exact .inr h
  . rcases jt.1 ad with rfl|ad
    . exact⟨o,c2 o dl,e2⟩
    . exact gj x ad
def Followed(n:Net)(q:Query)(A:List aJ)(O:List de)(l:aJ):Prop:=(∀x∈mL n q l,∃o∈A,o.place=x.place/\ti o x)/\∀o∈pT n q l,o∈O
def oM(q:Query):aJ:=⟨⟨0,q.src,0,0,⟨0,0,0,0⟩⟩,q.time,0,0,[],[],.nil⟩
theorem aQi(n:Net)(q:Query)(l:aJ):(pT n q l).length<=1:=by
 have h:(k7 n q l).length<=1:=by
  unfold k7 tB;split
  . split<;>simp
  . simp
 unfold pT;split
 . unfold tz
   split
   . exact h
   . simp
 . exact h
structure aa9(n:Net)(q:Query)(aM:bp)(f h:Nat)(dA:aJ->Prop)(lm:aJ->Nat)(gD:Mem)(m:Nat)(A Q:List aJ)(O:List de)(M:Mem):Prop where
 st:cF n q aM f h A Q O M
 Lg:∀l∈A,dA l
 OC:∀l∈Q,dA l
 sum:dH lm Q=m
 Qm:A.length+m<=400000000000+Q.length
 ol:O.length+m<=400000000000
 Mn:∀l∈A,l∈Q∨Followed n q A O l
 from_:∀o∈O,∃l,dA l/\o∈pT n q l
 start:oM q∈A
 cr:eb f h gD M
theorem aOA{n:Net}{q:Query}{aM:bp}{f h:Nat}{M:Mem}(H:cF n q aM f h [] [] [] M)(aK:n.wf)(ok:f4 n)(aD:aM.wf)(b7:aM.ia)(dA:aJ->Prop)(lm:aJ->Nat)(lI:∀l,dA l->q3 l/\E7 n l)(t7:∀l,dA l->∀x∈mL n q l,dA x)
 (Ve:∀l,dA l->dH lm (mL n q l)+1<=lm l)(bl:dA (oM q))(ez:lm (oM q)<=400000000000):
 b9 au Jd [.ptr f 0,gN aM []] M (fun v ah=>v=.tuple []/\eb f h M ah/\∃A O,cF n q aM f h A [] O ah/\oM q∈A/\(∀l∈A,dA l)/\(∀l∈A,Followed n q A O l)/\O.length<=400000000000/\∀o∈O,∃l,dA l/\o∈pT n q l):=by
 have fb:∀(K:Mem)(B:a1),(K++[B])[K.length]? =some B:=fun K B=>by simp
 have is:∀(K:Mem)(B X:a1),(K++[B]).set K.length X=K++[X]:=fun K B X=>by simp
 have jg:∀l:aJ,(l.row aM).take 13=l.row aM:=fun _=>rfl;have pt:∀l,dA l->1<=lm l:=fun l ag=>by have:=Ve l ag;omega
 obtain⟨m,o,E,aa,af,az⟩:=H.box;have cz:=aa;simp only[iY] at cz;obtain⟨cs,fd⟩:∃cs,gN aM []=.c7 cs:=⟨_,rfl⟩;have iy:(oM q).row aM=[.int .i64 0,.int .i64 q.src,.int .i64 0,.int .i64 0,.int .i64 0,.int .i64 0,.int .i64 0,.int .i64 0,.int .i64 q.time,.int .i64 0,.int .i64 0,.c7 cs,.slice [] .nil]:=by rw[<-fd];rfl
 refine hl Tz (by simp[CJ]) ?_;simp only[hg];rw[fd];simp-implicitDefEqProofs (disch:=omega) only[go_sem,CJ,e1,cz];rw[<-iy];refine ew (OM H aD b7 (fun _ h=>by cases h) (oM q) ⟨fun _ h=>(mQ h).elim,fR _⟩ (by decide) (by decide)) ?_;rintro v aQ4 ⟨rfl,xh,YB,aa1,H3,T_⟩;obtain⟨rfl,rfl⟩:YB=[oM q]/\aa1=[oM q]:=by
  rcases T_ with⟨_,_,o,aA,_⟩|h
  . cases aA
  . exact h
 clear T_ az af cz aa;simp-implicitDefEqProofs (disch:=omega) only[go_sem];refine lT (fun m vs N=>vs=[.ptr f 0]/\∃A Q O,aa9 n q aM f h dA lm M m A Q O N) (lm (oM q)) ⟨rfl,_,_,_,H3,?_,?_,?_,?_,?_,?_,?_,?_,xh⟩ ?_
 . intro l ag;rw[gZ.1 ag];exact bl
 . intro l ag;rw[gZ.1 ag];exact bl
 . rfl
 . simp only[List.length_singleton];omega
 . simp only[gY];omega
 . exact fun l ag=>.inl ag
 . intro _ h;cases h
 . exact gZ.2 rfl
 rintro m vs N ⟨rfl,A,Q,O,R⟩;obtain⟨h2,mM,aQ2,bI,_⟩:=R.st.box;simp only[iY] at bI;have Dv:=Kz (f:=lm) fun l ag=>pt l (R.OC l ag);have jn:=R.Qm;have vA:=R.ol;have DA:=R.sum;simp-implicitDefEqProofs (disch:=omega) only[go_sem,↓bm 3,e1,bI];refine ho (aa2 R.st.qN) ?_;simp-implicitDefEqProofs (disch:=omega) only[go_sem];refine a5 (fun a4=>?_) (fun a4=>?_);rotate_left
 . obtain rfl:Q=[]:=by
    match Q,a4 with
    |[],_=>rfl
    |_::_,a4=>exact absurd (by simp only[dC];omega) a4
   simp-implicitDefEqProofs (disch:=omega) only[go_sem];exact⟨R.cr,A,O,R.st,R.start,R.Lg,fun l ag=>(R.Mn l ag).resolve_left (by simp),by omega,R.from_⟩
 simp-implicitDefEqProofs (disch:=omega) only[go_sem,↓bm 5,e1,bI];refine ew (aa4 R.st.qN (by omega) (by omega)) ?_;rintro v dW ⟨x,cO,rfl,rK,Dr,TM⟩;have m4:=R.st.J0 rK TM;have aKv:x∈Q:=Dr.subset (pV ..);have zz:=R.OC x aKv;obtain⟨bU,i3⟩:=lI x zz;have fj:=aPy lm Dr;have mb:=Dr.length_eq;have aRQ:=Ve x zz;have zU:=Kz (f:=lm) fun l ag=>pt l (t7 x zz l ag);simp only[dH,dC] at fj mb;simp-implicitDefEqProofs (disch:=omega) only[go_sem,↓bm 7,fb,is,aJ.len,aJ.cell];refine ew (aQk (m4.app _) aK ok aD b7 (fun o aA=>(lI o (R.Lg o aA)).1.lw) x bU i3 (by omega) (by omega) (by omega)) ?_;rintro v eF ⟨rfl,p_,yU,y6,hK,jm⟩;have aRt:=jm.diff;have ak:=jm.sum lm;have kp:=aQi n q x;obtain⟨TS,aG1,aG2,aG3⟩:=jm.grow;simp-implicitDefEqProofs (disch:=omega) only[go_sem];refine .inl ⟨dH lm y6,by omega,rfl,yU,y6,O++pT n q x,hK,jm.all R.Lg (t7 x zz),jm.Kk (fun l ag=>R.OC l (Dr.subset (n3 _ ag))) (t7 x zz),rfl,by omega,by rw[dz];omega,fun l ag=>?_,fun o aA=>?_,TS _ R.start,R.cr.trans ((eb.J0 TM).trans ((eb.app f h dW _).trans p_))⟩
 . have mono:Followed n q A O l->Followed n q yU (O++pT n q x) l:=fun⟨f1,f2⟩=>
    ⟨fun y aE=>by obtain⟨o,aa,af⟩:=f1 y aE;exact⟨o,TS o aa,af⟩,fun o aA=>List.mem_append_left _ (f2 o aA)⟩
   rcases aG1 l ag with h|h
   . rcases R.Mn l h with h|h
     . rcases jt.1 (Dr.symm.subset h) with rfl|h
       . exact .inr ⟨aG3,fun o aA=>List.mem_append_right _ aA⟩
       . exact .inl (aG2 l h)
     . exact .inr (mono h)
   . exact .inl h
 . rcases g9.1 aA with aA|aA
   . exact R.from_ o aA
   . exact⟨x,zz,aA⟩
end Go.aL.C
namespace Go.aL.C
open Go.aL
def plain(q:Query):Query:={q with free:=false,wP:=false,eW:=0}
structure PK(n:Net)(q:Query)(dA:aJ->Prop)(lm:aJ->Nat):Prop where
 inv:∀l,dA l->q3 l/\E7 n l
 next:∀l,dA l->∀x∈mL n q l,dA x
 dec:∀l,dA l->dH lm (mL n q l)+1<=lm l
 start:dA (oM q)
 small:lm (oM q)<=400000000000
structure Found(n:Net)(q:Query)(dA:aJ->Prop)(A:List aJ)(O:List de):Prop where
 start:oM q∈A
 inv:∀l∈A,dA l
 Mn:∀l∈A,Followed n q A O l
 len:O.length<=400000000000
 from_:∀o∈O,∃l,dA l/\o∈pT n q l
theorem q5.freeze{M:Mem}{v:V}{O:List de}(H:q5 M v O):∃c ah,oC v M=some (.slice (O.map de.row) c,ah)/\∀(i:Nat) cs,M[i]? =some (.box cs)->ah[i]? =some (.box cs):=by
 rcases H with⟨rfl,rfl⟩|⟨b,ver,rfl,af,az⟩
 . exact⟨_,_,rfl,fun _ _ h=>h⟩
 . have a4:(ver==ver)=true:=beq_self_eq_true _
   have bd:decide (O.length<=(O.map de.row).length)=true:=decide_eq_true (by simp);have e3:(O.map de.row).take O.length=O.map de.row:=g_ (by simp);refine⟨.cx,M.set b (.arr 7 (O.map de.row) ver (max 0 O.length)),?_,fun i cs h=>?_⟩
   . simp only[oC,af,a4,bd,eQ,cond_true,decide_eq_true az,e3]
   . rw[dv fun e=>by subst e;rw[af] at h;cases h];exact h
theorem aON(n:Net)(q:Query)(aK:n.wf)(ok:f4 n)(aG:q6 n.stops.length q)(aj:q.back=false)(dA:aJ->Prop)(lm:aJ->Nat)(g:PK (f6 n q) (plain q) dA lm):
 bT au D3 [.agg n.row,.agg q.row] (fun v=>∃A O,v=.tuple [.slice ((sw O).map de.row) .cx,.int .i64 0]/\Found (f6 n q) (plain q) dA A O):=by
 have jn:=PE n q aK ok aG;have aHI:=Qt n q aK;have fh:=Li n q ok;have bl:=(abb n.dD aK.dD);have C3:(k5 n.dD).2=0:=by rw[ok.ok.dD]
 have b7:=FG C3;have bl:bT au DO [.agg n.dD.row] (fun v=>v=.tuple [xh n.dD,.int .i64 0]):=bT.mono bl fun v h=>h.2 C3;refine bP Tq (by simp[CA]) ?_;simp only[Net.row,Query.row] at jn;simp-implicitDefEqProofs (disch:=omega) only[go_sem,CA,Net.row,Query.row];first|refine b1 (jn) ?_|refine bV (jn) ?_
 generalize f6 n q=yj at*;simp only[bp.row] at bl;simp-implicitDefEqProofs (disch:=omega) only[go_sem,↓bm 8,↓bm 13,↓bm 15,aj];obtain⟨cs,fd⟩:∃cs,xh n.dD=.c7 cs:=⟨_,rfl⟩;rw[fd] at bl;first|refine b1 (bl) ?_|refine bV (bl) ?_
 simp-implicitDefEqProofs (disch:=omega) only[go_sem,↓bm 20,↓bm 22,↓bm 24,↓bm 26,e1];refine ew (aa3 n.dD) ?_;rintro v N ⟨rfl,B,rfl,gw⟩;simp-implicitDefEqProofs (disch:=omega) only[go_sem,e1];obtain⟨N,dc⟩:∃N,N=[a1.box n.row,.box q.row,.box yj.row,.map [],iY yj (plain q) 3 5 (.slice [] .nil),B]:=⟨_,rfl⟩;have aHB:cF yj (plain q) n.dD 4 5 [] [] [] N:=by
  refine⟨⟨3,.slice [] .nil,[],by rw[dc];rfl,.inl ⟨rfl,rfl⟩,⟨by rw[dc];rfl,List.nodup_nil,fun _ h=>(mQ h).elim,fun _ h=>(mQ h).elim⟩⟩,gw.fN (by rw[dc];rfl) fun i R ver hi=>?_⟩;match i,hi with
  |0,hi=>cases hi
  |1,hi=>cases hi
  |2,hi=>cases hi
  |3,hi=>cases hi
  |4,hi=>cases hi
  |i+5,hi=>rw[dc];rfl
 have xL:N[1]? =some (.box q.row):=by rw[dc];rfl
 simp only[iY,plain,Net.row,Query.row,aj] at dc;rw[<-dc];clear dc gw jn bl;have cw:=aOA aHB aHI fh aK.dD b7 dA lm g.inv g.next g.dec g.start g.small;have tT:gN n.dD []=.c7 cs:=fd;rw[tT] at cw;simp-implicitDefEqProofs (disch:=omega) only[go_sem,↓bm 28];refine ew cw ?_;rintro v du ⟨rfl,cr,A,O,dj,a9,lI,Uq,vA,aIl⟩;have t8:=cr _ _ xL (by decide) (by decide);obtain⟨m,o,E,bI,ce,dS⟩:=dj.box;obtain⟨c,eF,a_,p_⟩:=ce.freeze;have zY:=p_ _ _ t8;have rA:=aDh q O c aj (by omega);simp only[iY] at bI;simp only[Query.row] at t8 zY rA;have tY:Ar (.ptr 4 21) du=some (.slice (O.map de.row) c,eF):=by
  have aa:g4 1 false (.ptr 4 21) du=some o:=by simp only[g4,bI];rfl
  simp only[Ar,aa,a_]
 simp-implicitDefEqProofs (disch:=omega) only[go_sem,↓bm 30,e1,t8,zY,tY];first|refine b1 (rA) ?_|refine bV (rA) ?_
 simp-implicitDefEqProofs (disch:=omega) only[go_sem];exact⟨A,O,rfl,a9,lI,Uq,vA,aIl⟩
end Go.aL.C
namespace Go.aL.C
open Go.aL
theorem aNJ{n:Net}(ok:f4 n):∃d:Int->Nat,y0 n.ch d/\∀i:Nat,i<n.runs.length->d i<=6:=by
 obtain⟨d,aw⟩:=FL n n.ch.length (cH _) fun k _=>ok.ok.ch.2 k;rw[gB] at aw;have dY:=ok.runs;refine⟨fun x=>(c5 n.runs.length).countP fun(y:Nat)=>decide (d (y:Int)<d x),fun x y kq=>?_,fun i hi=>?_⟩
 . have aa:=aw x y kq
   obtain⟨l,ag,ak,rfl,rfl⟩:=kq;obtain⟨k,ao⟩:=ir ag;obtain⟨ig,d1⟩:=(ok.ok.ch.2 k l ao).dst;refine FH (a:=l.dst.toNat) _ (fun m _ hm=>?_) (ka.2 (by omega)) ?_ ?_
   . have:=of_decide_eq_true hm
     exact decide_eq_true (by omega)
   . rw[Int.toNat_of_nonneg ig];exact decide_eq_true aa
   . rw[Int.toNat_of_nonneg ig];exact decide_eq_false (by omega)
 . have:=FH (a:=i) (p:=fun y:Nat=>decide (d (y:Int)<d i)) (q:=fun _=>true) (c5 n.runs.length) (fun _ _ _=>rfl) (ka.2 hi) rfl (decide_eq_false (by omega))
   rw[List.countP_eq_length.2 (fun _ _=>rfl),List.length_range] at this;show List.countP _ _<=6;omega
structure Env(n:Net)(q:Query)(d:Int->Nat):Prop where
 ok:f4 n
 down:y0 n.ch d
 d6:∀i:Nat,i<n.runs.length->d i<=6
 time:0<=q.time/\q.time<=3155932800
 b5:0<=q.b5/\q.b5<=8
 walk:0<=q.walk/\q.walk<=86400
 src:0<=q.src/\q.src<n.stops.length
structure Zk(n:Net)(x:cd)(i b k:Nat)(r:bM)(B c:bG):Prop where
 run:x.run=i
 ha:x.ha=b
 fC:x.fC=k
 acy:b<k
 an:n.runs[i]? =some r
 gone:r.gone=false
 bU:r.calls[b]? =some B
 ar:r.calls[k]? =some c
 src:x.src=B.stop
 dst:x.dst=c.stop
 cf:x.cf=B.cf
 cJ:x.cJ=c.cJ
 on:x.stay=false->B.ha=true
def K7(n:Net)(x:cd):Prop:=x.cY=true->∃i b k r B c,Zk n x i b k r B c
def Aq(n:Net)(x:cd):Bool:=match(ki n x.run.toNat)[x.fC.toNat]? with
 |some c=>c.fC
 |none=>false
def oE(a3:List cd):Nat:=a3.countP fun x=>x.cY&&!x.stay
def Ends(n:Net)(a3:List cd):Prop:=∀x,a3.getLast?=some x->x.cY=true->Aq n x=true
structure q4(n:Net)(a3:List cd):Prop where
 rS:∀x∈a3,y2 x
 ok:∀x∈a3,K7 n x
 Wc:∀k x y,a3[k]? =some x->a3[k+1]? =some y->x.cY=true->y.stay=false->Aq n x=true
theorem q4.snoc{n:Net}{a3:List cd}(h:q4 n a3){y:cd}(aj:y2 y)(aE:K7 n y)(aK:y.stay=false->Ends n a3):q4 n (a3++[y]):=by
 refine⟨fun x ad=>?_,fun x ad=>?_,fun k x z ad a_ an ak=>?_⟩
 . rcases g9.1 ad with ad|ad
   . exact h.rS x ad
   . rw[gZ.1 ad];exact aj
 . rcases g9.1 ad with ad|ad
   . exact h.ok x ad
   . rw[gZ.1 ad];exact aE
 . have i8:=(bo.1 a_).1
   rw[dz,List.length_singleton] at i8;rw[gp (by omega)] at ad;by_cases ao:k+1<a3.length
   . rw[gp ao] at a_
     exact h.Wc k x z ad a_ an ak
   . have he:k+1=a3.length:=by omega
     rw[he,j_ (cH _),mS] at a_;cases a_;exact aK ak x (by rw[List.getLast?_eq_getElem?,show a3.length -1=k by omega];exact ad) an
structure wI(n:Net)(q:Query)(l:aJ):Prop where
 stop:0<=l.place.stop/\l.place.stop<n.stops.length
 yQ:∀r∈l.base,r.wf
 b5:0<=l.b5/\l.b5<=q.b5
 base:(l.base.length:Int)<=l.b5
 time:0<=l.time/\l.time<=3155932800
 walk:0<=l.walk/\l.walk<=86400
 a3:q4 n l.a3
 l2:(oE l.a3:Int)<=l.b5
 ends:Ends n l.a3
 len:(l.a3.length:Int)<=10*l.b5+1
structure aa7(n:Net)(d:Int->Nat)(l:aJ)(i k:Nat)(r:bM)(c:bG)(x:cd):Prop where
 an:n.runs[i]? =some r
 ar:r.calls[k]? =some c
 run:l.place.run=i
 cm:l.place.cm=k
 stop:l.place.stop=c.stop
 time:l.time=c.cJ
 cY:l.place.cY.wf
 base:(l.base.length:Int)+1<=l.b5
 len:(l.a3.length:Int)+d i<=10*l.b5
 last:l.a3.getLast?=some x
 xr:x.cY=true
 ES:x.run=i
 ET:x.fC=k
structure ke(n:Net)(q:Query)(d:Int->Nat)(l:aJ):Prop where
 kind:l.place.kind=0∨l.place.kind=1∨l.place.kind=2
 stop:0<=l.place.stop/\l.place.stop<n.stops.length
 yQ:∀r∈l.base,r.wf
 b5:0<=l.b5/\l.b5<=q.b5
 base:(l.base.length:Int)<=l.b5
 time:0<=l.time/\l.time<=3155932800
 walk:0<=l.walk/\l.walk<=86400
 a3:q4 n l.a3
 l2:(oE l.a3:Int)<=l.b5
 off:l.place.kind≠1->Ends n l.a3/\(l.a3.length:Int)<=10*l.b5+1
 aNb:l.place.kind=0->l.a3=[]
 rd:l.place.kind=1->∃i k r c x,aa7 n d l i k r c x
theorem ke.on{n:Net}{q:Query}{d:Int->Nat}{l:aJ}(h:ke n q d l)(ao:l.place.kind≠1):wI n q l:=
 ⟨h.stop,h.yQ,h.b5,h.base,h.time,h.walk,h.a3,h.l2,(h.off ao).1,(h.off ao).2⟩
theorem ke.lB{n:Net}{q:Query}{d:Int->Nat}{l:aJ}(h:ke n q d l)(ao:l.place.kind=1)(a9:y_ n l=true):wI n q (lB l)/\((lB l).a3.length:Int)<=10*l.b5:=by
 obtain⟨i,k,r,c,x,R⟩:=h.rd ao;have:=R.len;refine⟨⟨h.stop,fun y aE=>(jt.1 aE).elim (fun e=>e▸R.cY) (h.yQ y),h.b5,?_,h.time,h.walk,h.a3,h.l2,?_,?_⟩,?_⟩
 . have:=R.base
   show(((l.place.cY::l.base).length:Nat):Int)<=l.b5;simp only[dC];omega
 . intro y aE _
   have aKB:y=x:=by
    have:l.a3.getLast?=some y:=aE;rw[R.last] at this;exact(Option.some.inj this).symm
   subst aKB;unfold Aq;unfold y_ at a9;rw[R.ES,R.ET];rw[R.run,R.cm] at a9;exact a9
 . show(l.a3.length:Int)<=10*l.b5+1;omega
 . show(l.a3.length:Int)<=10*l.b5;omega
theorem aPs{n:Net}(ok:f4 n){z:Int}(h:0<=z/\z<n.stops.length):∃s,n.stops[z.toNat]? =some s/\0<=z/\sv n z=s.change/\0<=s.change/\s.change<=3600:=by
 obtain⟨s,ak⟩:∃s,n.stops[z.toNat]? =some s:=⟨n.stops[z.toNat]'(by omega),by simp⟩;have az:=ok.ok.stops.2 _ s ak;exact⟨s,ak,h.1,by simp only[sv,ak],az.2.2.1.1,az.2.2.1.2⟩
theorem ke.Vu{n:Net}{q:Query}{d:Int->Nat}{l:aJ}(E:Env n q d)(h:ke n q d l):q3 l/\E7 n l:=by
 have an:=E.b5;have aa:=h.b5;have af:=h.base;refine⟨⟨⟨h.yQ,by omega⟩,?_,aa.1,by omega,h.a3.rS,h.time,h.walk⟩,⟨aPs E.ok h.stop,fun ao=>?_⟩⟩
 . by_cases ao:l.place.kind=1
   . obtain⟨i,k,r,c,x,R⟩:=h.rd ao
     have:=R.len;omega
   . have:=(h.off ao).2;omega
 . obtain⟨i,k,r,c,x,R⟩:=h.rd ao
   have:=R.base;exact⟨by omega,R.cY,i,k,r,c,R.an,R.ar,R.run,R.cm,R.stop⟩
end Go.aL.C
namespace Go.aL.C
open Go.aL
theorem bf.aQY{r:bf}(h:r.wf)(z:Int):(r.kx z).wf:=⟨h.1,h.2.1,Eu _ _,h.2.2.2⟩
theorem bf.aME{r:bf}(h:r.wf)(z:Int):(r.mode z).wf:=⟨h.1,h.2.1,h.2.2.1,Eu _ _⟩
theorem bf.ab4{n:Net}{r:bf}(h:r.wf){c:bG}(ar:0<=c.cJ/\c.cJ<=3155932800):(r.at n c).wf:=by
 refine⟨h.1,?_,Eu _ _,h.2.2.2⟩;show ev c.cJ;unfold ev;omega
theorem aOj{n:Net}{r:bM}{B:bG}{rd:bf}(h:rd.wf):(uz n r B rd).wf:=bf.aQY (bf.aME h _) _
theorem ze{n:Net}(ok:f4 n){i k:Nat}{r:bM}{c:bG}(an:n.runs[i]? =some r)(ar:r.calls[k]? =some c):(0<=c.stop/\c.stop<n.stops.length)/\(0<=c.cJ/\c.cJ<=3155932800)/\0<=c.cf/\c.cf<=3155932800:=by
 have h:=(ok.ok.runs.2 i r an).2.2.2.2.2.1.2.2 k c ar;have af:=h.2.1;exact⟨h.1,by omega,by omega⟩
theorem XR{n:Net}(ok:f4 n){l:aJ}{i b:Nat}{stay:Bool}{B:bG}{r:bM}(an:n.runs[i]? =some r):∀{cs:List bG}{k:Nat}{rd:bf},(∀(j:Nat)(c:bG),cs[j]? =some c->r.calls[k+j]? =some c)->rd.wf->
 ∀x∈nY n l i b stay B cs k rd,∃m c uy,k<=m/\r.calls[m]? =some c/\uy.wf/\x=nf l i b stay B c m uy
 |[],_,_,_,_,x,ad=>by cases ad
 |c::cs,k,rd,fd,hw,x,ad=>by
  have ar:=fd 0 c rfl;have gR:(rd.at n c).wf:=bf.ab4 hw (ze ok an ar).2.1;rcases g9.1 ad with ad|ad
  . split at ad
    . exact⟨k,c,_,cH _,ar,gR,gZ.1 ad⟩
    . cases ad
  . obtain⟨m,cK,uy,aa,af⟩:=XR ok an (fun j cK ap=>by
     have:=fd (j+1) cK ap;rwa [show k+(j+1)=k+1+j by omega] at this) gR x ad
    exact⟨m,cK,uy,by omega,af⟩
theorem XO{n:Net}(ok:f4 n){l:aJ}{i b:Nat}{stay:Bool}{B:bG}{r:bM}(an:n.runs[i]? =some r)(bU:r.calls[b]? =some B){rd:bf}(hw:rd.wf):∀x∈ng n l i b stay rd,∃m c uy,b<m/\r.calls[m]? =some c/\uy.wf/\x=nf l i b stay B c m uy:=by
 intro x ad;simp only[ng,an,bU] at ad;obtain⟨m,c,uy,aa,af⟩:=XR ok an (k:=b+1) (fun j c ap=>by rwa [kW] at ap) (aOj hw) x ad;exact⟨m,c,uy,by omega,af⟩
theorem Wa(a3:List cd)(x:cd):oE (a3++[x])=oE a3+if x.cY&&!x.stay then 1 else 0:=by
 simp only[oE,List.countP_append,List.countP_cons,List.countP_nil];omega
theorem XU{n:Net}{q:Query}{d:Int->Nat}(E:Env n q d){l:aJ}{i b k:Nat}{stay:Bool}{r:bM}{B c:bG}{rd:bf}(an:n.runs[i]? =some r)(aB:r.gone=false)(bU:r.calls[b]? =some B)(ar:r.calls[k]? =some c)(Ue:b<k)(hw:rd.wf)(aJH:stay=false->B.ha=true)
 (Vd:∀x∈l.base,x.wf)(Nz:l.b5<=q.b5)(hp:(l.base.length:Int)+1<=l.b5)(aKt:0<=l.walk/\l.walk<=86400)(ag:q4 n l.a3)(mC:(oE l.a3:Int)+(if stay then 0 else 1)<=l.b5)(C_:stay=false->Ends n l.a3)(hlen:(l.a3.length:Int)+1+d i<=10*l.b5):
 ke n q d (nf l i b stay B c k rd):=by
 obtain⟨eX,g1,_⟩:=ze E.ok an ar;obtain⟨_,_,rg⟩:=ze E.ok an bU;refine⟨.inr (.inl rfl),eX,Vd,⟨?_,Nz⟩,?_,g1,aKt,ag.snoc ⟨g1,?_⟩ (fun _=>⟨i,b,k,r,B,c,rfl,rfl,rfl,Ue,an,aB,bU,ar,rfl,rfl,rfl,rfl,aJH⟩) C_,?_,fun h=>absurd rfl h,fun h=>?_,fun _=>⟨i,k,r,c,_,an,ar,rfl,rfl,rfl,rfl,hw,hp,?_,List.getLast?_concat,rfl,rfl,rfl⟩⟩
 . show 0<=l.b5;omega
 . show(l.base.length:Int)<=l.b5;omega
 . show-3155932800<=c.cJ -B.cf/\c.cJ -B.cf<=3155932800;omega
 . show((oE (l.a3++[uA i b stay B c k]):Nat):Int)<=l.b5
   rw[Wa];cases stay
   . simp only[uA] at mC⊢;simp at mC⊢;omega
   . simp only[uA] at mC⊢;simp at mC⊢;omega
 . exact absurd h (by show(1:Int)≠0;omega)
 . show(((l.a3++[uA i b stay B c k]).length:Nat):Int)+d i<=10*l.b5
   rw[dz,List.length_singleton];omega
theorem aOY{n:Net}{l:aJ}{x:cd}(ad:l.a3=[x])(an:x.cY=false){t:Int}(h:q4 n l.a3)(aV:0<=t/\t<=3155932800):q4 n [ta x t]/\oE [ta x t]=oE l.a3/\Ends n [ta x t]:=by
 have aj:=h.rS x (by rw[ad];exact gZ.2 rfl);have xP:(ta x t).cY=false:=an;refine⟨⟨fun y aE=>?_,fun y aE=>?_,fun k y z aE a_ _ _=>?_⟩,?_,fun y aE xS=>?_⟩
 . rw[gZ.1 aE]
   refine⟨aV,?_⟩;show-3155932800<=t -(x.cf+(t -x.cJ))/\t -(x.cf+(t -x.cJ))<=3155932800;have:=aj.2;omega
 . rw[gZ.1 aE]
   intro h;rw[xP] at h;cases h
 . rw[List.getElem?_cons_succ,List.getElem?_nil] at a_;cases a_
 . rw[ad]
   show List.countP _ _=List.countP _ _;simp only[List.countP_cons,List.countP_nil,an,xP,oS]
 . cases aE
   have aa:(ta x t).cY=true:=xS;rw[xP] at aa;cases aa
theorem acH{n:Net}{q:Query}{d:Int->Nat}(E:Env n q d){l:aJ}(h:wI n q l){i k:Nat}{r:bM}{c:bG}(an:n.runs[i]? =some r)(ar:r.calls[k]? =some c)(aB:r.gone=false)(aj:c.ha=true):∀x∈o3 n q l i k,ke n q d x:=by
 intro x ad;unfold o3 at ad;split at ad
 . cases ad
 rename_i cD;simp only[ki,an,ar] at ad;obtain⟨_,_,t1,t2⟩:=ze E.ok an ar;have rH:=(bo.1 an).1;have aRs:=E.d6 i rH;have aa:=h.b5;have af:=h.base;have az:=h.l2;have bh:=h.len;have key:∀l':aJ,l'.base=l.base->l'.b5=l.b5+1->l'.walk=l.walk->q4 n l'.a3->oE l'.a3=oE l.a3->Ends n l'.a3->l'.a3.length=l.a3.length->x∈ng n l' i k false ⟨c.cf,0,0,0⟩->ke n q d x:=by
  intro l' a4 bd e3 l4 mY zl aD3 ad;have KQ:ev 0:=by unfold ev;omega
  obtain⟨m,cK,rd,h2,jb,mK,rfl⟩:=XO E.ok an ar ⟨by show ev c.cf;unfold ev;omega,KQ,KQ,KQ⟩ x ad;refine XU E an aB ar jb h2 mK (fun _=>aj) (by rw[a4];exact h.yQ) (by rw[bd];omega) (by rw[a4,bd];omega) (by rw[e3];exact h.walk) l4 ?_ (fun _=>zl) ?_
  . rw[mY,bd];simp;omega
  . rw[aD3,bd];omega
 unfold pc at ad;split at ad
 . rename_i y aE
   split at ad
   . rename_i xS
     obtain⟨s1,dq,wc⟩:=aOY aE xS h.a3 ⟨t1,t2⟩;exact key {l with b5:=l.b5+1,a3:=[ta y c.cf],tag:=.full} rfl rfl rfl s1 dq wc (by rw[aE];rfl) ad
   . exact key {l with b5:=l.b5+1} rfl rfl rfl h.a3 rfl h.ends rfl ad
 . exact key {l with b5:=l.b5+1} rfl rfl rfl h.a3 rfl h.ends rfl ad
theorem QP{n:Net}{q:Query}{d:Int->Nat}(E:Env n q d){l:aJ}(h:wI n q l){t:Int}{i:Nat}{r:bM}(an:n.runs[i]? =some r):∀{cs:List bG}{k:Nat},(∀(j:Nat)(c:bG),cs[j]? =some c->r.calls[k+j]? =some c)->∀x∈rb n q l t r i cs k,ke n q d x
 |[],_,_,x,ad=>by cases ad
 |c::cs,k,fd,x,ad=>by
  rcases g9.1 ad with ad|ad
  . unfold zc at ad
    split at ad
    . rename_i HH
      simp only[wQ,cc,lV] at HH;exact acH E h an (fd 0 c rfl) HH.1 HH.2.1 x ad
    . cases ad
  . exact QP E h an (fun j cK ap=>by
     have:=fd (j+1) cK ap;rwa [show k+(j+1)=k+1+j by omega] at this) x ad
theorem QR{n:Net}{q:Query}{d:Int->Nat}(E:Env n q d){l:aJ}(h:wI n q l){t:Int}:∀{rs:List bM}{i:Nat},(∀(j:Nat)(r:bM),rs[j]? =some r->n.runs[i+j]? =some r)->∀x∈p6 n q l t rs i,ke n q d x
 |[],_,_,x,ad=>by cases ad
 |r::rs,i,mG,x,ad=>by
  rcases g9.1 ad with ad|ad
  . exact QP E h (mG 0 r rfl) (fun j c ap=>by rwa [ee]) x ad
  . exact QR E h (fun j fO ap=>by
     have:=mG (j+1) fO ap;rwa [show i+(j+1)=i+1+j by omega] at this) x ad
theorem Lx{n:Net}{q:Query}{d:Int->Nat}(E:Env n q d){l:aJ}(h:wI n q l)(t:Int):∀x∈lC n q l t,ke n q d x:=QR E h fun j r ap=>by rwa [ee]
theorem Pu{n:Net}{q:Query}{d:Int->Nat}(E:Env n q d){l:aJ}(h:wI n q l)(hlen:(l.a3.length:Int)<=10*l.b5):∀{cX:List Path},(∀p∈cX,p∈n.paths)->∀x∈se q l cX,ke n q d x
 |[],_,x,ad=>by cases ad
 |p::cX,fj,x,ad=>by
  rcases g9.1 ad with ad|ad
  . unfold yO at ad
    split at ad
    . rename_i hw
      rw[gZ.1 ad];simp only[yP,cc,lV,decide_eq_true_eq,decide_eq_false_iff_not] at hw;obtain⟨i,hi⟩:=ir (fj p (pV ..));obtain⟨⟨_,aw,ak⟩,_⟩:=E.ok.ok.sound i p hi;have aa:=h.time;have af:=h.walk;have az:=E.walk;have gP:q4 n (l.a3++[⟨false,0,0,0,l.place.stop,p.dst,l.time,l.time+p.dL,false⟩]):=h.a3.snoc ⟨?_,?_⟩ (fun e=>by cases e) fun _=>h.ends
      . refine⟨.inr (.inr rfl),aw,h.yQ,h.b5,h.base,?_,?_,gP,?_,fun _=>⟨?_,?_⟩,fun e=>absurd e (by show(2:Int)≠0;omega),fun e=>absurd e (by show(2:Int)≠1;omega)⟩
        . show 0<=l.time+p.dL/\l.time+p.dL<=3155932800;omega
        . show 0<=l.walk+p.dL/\l.walk+p.dL<=86400;omega
        . show((oE (l.a3++[_]):Nat):Int)<=l.b5
          rw[Wa];have:=h.l2;simpa using this
        . intro y aE xS
          have aE:(l.a3++[(⟨false,0,0,0,l.place.stop,p.dst,l.time,l.time+p.dL,false⟩:cd)]).getLast?=some y:=aE;rw[List.getLast?_concat] at aE;cases aE;cases xS
        . show(((l.a3++[_]).length:Nat):Int)<=10*l.b5+1
          rw[dz,List.length_singleton];omega
      . show 0<=l.time+p.dL/\l.time+p.dL<=3155932800;omega
      . show-3155932800<=l.time+p.dL -l.time/\l.time+p.dL -l.time<=3155932800;omega
    . cases ad
  . exact Pu E h hlen (fun p ay=>fj p (n3 _ ay)) x ad
theorem Xk{n:Net}{q:Query}{d:Int->Nat}(E:Env n q d){l:aJ}(h:ke n q d l)(ao:l.place.kind=1):∀{xs:List dG},(∀p∈xs,p∈n.ch)->∀x∈td n l xs,ke n q d x
 |[],_,x,ad=>by cases ad
 |p::cX,fj,x,ad=>by
  rcases g9.1 ad with ad|ad
  . unfold yC at ad
    split at ad
    . rename_i bl
      simp only[oN,cc,decide_eq_true_eq] at bl;obtain⟨s1,dq,wc,kR⟩:=bl;obtain⟨i,k,r,c,y,R⟩:=h.rd ao;have mb:=fj p (pV ..);obtain⟨j,ap⟩:=ir mb;obtain⟨ig,d1⟩:=(E.ok.ok.ch.2 j p ap).dst;have g2:=E.down p.src p.dst ⟨p,mb,s1,rfl,rfl⟩;rw[dq,R.run] at g2;unfold Hx at kR;split at kR
      . rename_i fO jY
        split at kR
        . rename_i cK rz
          simp only[cc,lV] at kR;obtain⟨m,aQ_,rd,h2,jb,mK,rfl⟩:=XO E.ok jY rz R.cY x ad;have aa:=R.len;refine XU E jY kR.1 rz jb h2 mK (fun e=>by cases e) h.yQ h.b5.2 R.base h.walk h.a3 ?_ (fun e=>by cases e) ?_
          . have:=h.l2;simpa using this
          . rw[Int.toNat_of_nonneg ig];omega
        . cases kR
      . cases kR
    . cases ad
  . exact Xk E h ao (fun p ay=>fj p (n3 _ ay)) x ad
theorem aMX{n:Net}{q:Query}{d:Int->Nat}(E:Env n q d){l:aJ}(h:ke n q d l):∀x∈mL n q l,ke n q d x:=by
 intro x ad;unfold mL at ad;split at ad
 . rename_i ao
   rcases g9.1 ad with ad|ad
   . exact Xk E h ao (fun _ h=>h) x ad
   . unfold ut at ad
     split at ad
     . rename_i a9
       obtain⟨aa,af⟩:=h.lB ao a9;rcases g9.1 ad with ad|ad
       . exact Lx E aa _ x ad
       . exact Pu E aa af (fun _ h=>h) x ad
     . cases ad
 . rename_i ao
   split at ad
   . exact Lx E (h.on ao) _ x ad
   . rename_i l9
     have a8:=h.kind;have ag:l.a3=[]:=h.aNb (by omega);rcases g9.1 ad with ad|ad
     . exact Lx E (h.on ao) _ x ad
     . refine Pu E (h.on ao) ?_ (fun _ h=>h) x ad
       have:=h.b5;rw[ag,gY];omega
theorem aPl{n:Net}{q:Query}{d:Int->Nat}(E:Env n q d):ke n q d (oM q):=by
 have aa:=E.b5;refine⟨.inl rfl,E.src,fun _ h=>(mQ h).elim,⟨Int.le_refl 0,aa.1⟩,Int.le_refl 0,E.time,⟨Int.le_refl 0,by show(0:Int)<=86400;omega⟩,⟨fun _ h=>(mQ h).elim,fun _ h=>(mQ h).elim,fun k x y h=>?_⟩,Int.le_refl 0,fun _=>⟨fun x h=>?_,?_⟩,fun _=>rfl,fun h=>absurd h ?_⟩
 . cases h
 . cases h
 . show(0:Int)<=10*0+1;omega
 . show(0:Int)≠1;omega
end Go.aL.C
namespace Go.aL.C
open Go.aL
def ms:Nat->Nat
 |0=>10
 |r+1=>10+84*(35*(1+ms r))
def n5:Nat->Nat
 |0=>0
 |r+1=>35*(1+ms r)
theorem aaR:∀r,ms r=10+84*n5 r
 |0=>rfl
 |_+1=>rfl
def hN(q:Query)(l:aJ):Nat:=(q.b5 -l.b5).toNat
def lz(rs:List bM):List Int:=rs.flatMap fun r=>r.calls.map (·.stop)
def iR(n:Net)(q:Query)(d:Int->Nat)(l:aJ):Nat:=
 if l.place.kind=1 then(1+ms (hN q l))*(1+if l.place.cm+1=((ki n l.place.run.toNat).length:Int) then 5*d l.place.run else 0)
 else if l.place.kind=2 then 1+n5 (hN q l)*(lz n.runs).count l.place.stop
 else 1+ms (hN q l)
theorem XS{n:Net}{q:Query}{d:Int->Nat}{l:aJ}{i b:Nat}{stay:Bool}{B:bG}{len:Nat}(hlen:(ki n i).length=len):∀{cs:List bG}{k:Nat}{rd:bf},k+cs.length=len->
 dH (iR n q d) (nY n l i b stay B cs k rd)<=(1+ms (hN q l))*(cs.length+if cs.isEmpty then 0 else 5*d i)
 |[],_,_,_=>fR _
 |c::cs,k,rd,ao=>by
  rw[dC] at ao;have bu:=XS (q:=q) (d:=d) (l:=l) (b:=b) (stay:=stay) (B:=B) hlen (cs:=cs) (k:=k+1) (rd:=rd.at n c) (by omega);have hw:iR n q d (nf l i b stay B c k (rd.at n c))=(1+ms (hN q l))*(1+if(k:Int)+1=len then 5*d i else 0):=by
   rw[<-hlen];simp only[iR,nf,hN,if_true];rfl
  have hle:dH (iR n q d) (if c.fC||wk n i k then[nf l i b stay B c k (rd.at n c)] else[])<=(1+ms (hN q l))*(1+if(k:Int)+1=len then 5*d i else 0):=by
   split
   . simp only[dH,hw,iT];exact cH _
   . exact fR _
  show dH _ (_++_)<=_;rw[uH];refine kb (Nat.add_le_add hle bu) ?_;rw[<-Nat.mul_add];refine Nat.mul_le_mul_left _ ?_;simp only[dC,List.isEmpty_cons,jh,if_false];cases cs with
  |nil=>simp only[gY,List.isEmpty_nil,if_true];split<;>omega
  |cons cK aDy=>
   simp only[dC] at ao⊢;rw[if_neg (by omega)];simp only[List.isEmpty_cons,jh,if_false];omega
theorem XP{n:Net}{q:Query}{d:Int->Nat}{l:aJ}{i b:Nat}{stay:Bool}{rd:bf}{r:bM}{B:bG}(an:n.runs[i]? =some r)(bU:r.calls[b]? =some B):
 dH (iR n q d) (ng n l i b stay rd)<=(1+ms (hN q l))*(r.calls.length -1+5*d i):=by
 have aj:=(bo.1 bU).1;simp only[ng,an,bU];refine kb (XS (n:=n) (q:=q) (d:=d) (len:=r.calls.length) (by simp only[ki,an]) (by rw[List.length_drop];omega)) (Nat.mul_le_mul_left _ ?_);rw[List.length_drop];split<;>omega
theorem aEV(l:aJ)(t:Int):(pc l t).b5=l.b5+1:=by
 unfold pc;split
 . split<;>rfl
 . rfl
theorem acE{n:Net}{q:Query}{d:Int->Nat}(E:Env n q d){l:aJ}(ag:l.b5<=q.b5){i k:Nat}{r:bM}{c:bG}(an:n.runs[i]? =some r)(ar:r.calls[k]? =some c):dH (iR n q d) (o3 n q l i k)<=n5 (hN q l):=by
 unfold o3;split
 . exact fR _
 . rename_i cD
   simp only[ki,an,ar];refine kb (XP (q:=q) (d:=d) an ar) ?_;have ca:=E.d6 i (bo.1 an).1;have Uf:=E.ok.calls r (dQ an);obtain⟨m,hm⟩:∃m,hN q l=m+1:=⟨hN q l -1,by unfold hN;omega⟩;have qm:hN q (pc l c.cf)=m:=by unfold hN at hm⊢;rw[aEV];omega
   rw[hm,qm];show _<=35*(1+ms m);rw[Nat.mul_comm 35];exact Nat.mul_le_mul_left _ (by omega)
theorem QQ{n:Net}{q:Query}{d:Int->Nat}(E:Env n q d){l:aJ}(ag:l.b5<=q.b5){t:Int}{i:Nat}{r:bM}(an:n.runs[i]? =some r):∀{cs:List bG}{k:Nat},(∀(j:Nat)(c:bG),cs[j]? =some c->r.calls[k+j]? =some c)->
 dH (iR n q d) (rb n q l t r i cs k)<=n5 (hN q l)*(cs.map (·.stop)).count l.place.stop
 |[],_,_=>fR _
 |c::cs,k,fd=>by
  have bu:=QQ E ag (t:=t) an (cs:=cs) (k:=k+1) fun j cK ap=>by
   have:=fd (j+1) cK ap;rwa [show k+(j+1)=k+1+j by omega] at this
  show dH _ (_++_)<=_;rw[uH,hY,List.count_cons];have aa:dH (iR n q d) (zc n q l t r i k c)<=n5 (hN q l)*if(c.stop==l.place.stop)=true then 1 else 0:=by
   unfold zc;split
   . rename_i aj
     simp only[wQ,cc,decide_eq_true_eq] at aj;rw[if_pos (by simp[aj.2.2.1]),kY];exact acE E ag an (fd 0 c rfl)
   . exact fR _
  rw[Nat.mul_add];omega
theorem QS{n:Net}{q:Query}{d:Int->Nat}(E:Env n q d){l:aJ}(ag:l.b5<=q.b5){t:Int}:∀{rs:List bM}{i:Nat},(∀(j:Nat)(r:bM),rs[j]? =some r->n.runs[i+j]? =some r)->
 dH (iR n q d) (p6 n q l t rs i)<=n5 (hN q l)*(lz rs).count l.place.stop
 |[],_,_=>fR _
 |r::rs,i,mG=>by
  have bu:=QS E ag (t:=t) (rs:=rs) (i:=i+1) fun j fO ap=>by
   have:=mG (j+1) fO ap;rwa [show i+(j+1)=i+1+j by omega] at this
  have aa:=QQ E ag (t:=t) (mG 0 r rfl) (cs:=r.calls) (k:=0) fun j c ap=>by rwa [ee]
  show dH _ (_++_)<=_;rw[uH,show lz (r::rs)=r.calls.map (·.stop)++lz rs from List.flatMap_cons,List.count_append,Nat.mul_add];rw[iT] at aa;omega
theorem QN{n:Net}{q:Query}{d:Int->Nat}(E:Env n q d){l:aJ}(ag:l.b5<=q.b5)(t:Int):dH (iR n q d) (lC n q l t)<=n5 (hN q l)*(lz n.runs).count l.place.stop:=
 QS E ag fun j r ap=>by rwa [ee]
theorem LO{K:List Int}{m:Nat}(h:∀t,K.count t<=m):∀L:List Int,dH (fun t=>L.count t) K<=m*L.length
 |[]=>by
  have:∀K:List Int,dH (fun t=>([]:List Int).count t) K=0:=fun K=>by induction K with|nil=>rfl|cons _ _ bu=>simpa[dH] using bu
  rw[this];exact fR _
 |x::L=>by
  have bu:=LO h L;have af:∀K:List Int,dH (fun t=>(x::L).count t) K=dH (fun t=>L.count t) K+K.count x:=fun K=>by
   induction K with
   |nil=>rfl
   |cons t K bu=>
    show(x::L).count t+dH _ K=(L.count t+dH _ K)+_;rw[bu,List.count_cons,List.count_cons];by_cases aV:x=t
    . subst aV;simp;omega
    . have az:(x==t)=false:=by simpa using aV
      have bh:(t==x)=false:=by simpa using fun e:t=x=>aV e.symm
      simp[az,bh];omega
  have:=h x;rw[af,dC,Nat.mul_add];omega
theorem abS{rs:List bM}(dY:rs.length<=7)(ca:∀r∈rs,r.calls.length<=6):(lz rs).length<=42:=by
 have:∀rs:List bM,(∀r∈rs,r.calls.length<=6)->(lz rs).length<=6*rs.length:=fun rs=>by
  induction rs with
  |nil=>intro _;exact cH _
  |cons r rs bu=>
   intro h;have aa:=h r (pV ..);have af:=bu fun x ad=>h x (n3 _ ad);rw[show lz (r::rs)=r.calls.map (·.stop)++lz rs from List.flatMap_cons,dz,eu,dC];omega
 have:=this rs ca;omega
def ml(cX:List Path)(s:Int):List Int:=(cX.filter fun p=>decide (p.src=s)).map (·.dst)
end Go.aL.C
namespace Go.aL.C
open Go.aL
theorem Xx{α:Type}{f g:α->Nat}:∀{l:List α},(∀x∈l,f x<=g x)->dH f l<=dH g l
 |[],_=>cH _
 |x::l,h=>by
  have:=Xx (l:=l) fun y aE=>h y (n3 _ aE);have:=h x (pV ..);simp only[dH];omega
theorem Xy{α:Type}(f:α->Nat)(c:Nat):∀{l:List α},(∀x∈l,f x=0)∨(∃i:Nat,∀(k:Nat)(x:α),l[k]? =some x->k≠i->f x=0)->(∀x∈l,f x<=c)->dH f l<=c
 |[],_,_=>fR _
 |x::l,h,ar=>by
  have zero:∀{m:List α},(∀y∈m,f y=0)->dH f m=0:=fun{m} hm=>by
   have:=Xx (f:=f) (g:=fun _=>0) (l:=m) fun y aE=>by rw[hm y aE];exact cH _
   have z:∀m:List α,dH (fun _=>0) m=0:=fun m=>by induction m with|nil=>rfl|cons _ _ bu=>simpa[dH] using bu
   rw[z m] at this;omega
  rcases h with h|⟨i,h⟩
  . rw[zero h];exact fR _
  . cases i with
    |zero=>
     have:dH f l=0:=zero fun y aE=>by
      obtain⟨k,ao⟩:=ir aE;exact h (k+1) y (by simpa using ao) (by omega)
     simp only[dH,this];exact ar x (pV ..)
    |succ i=>
     have a8:f x=0:=h 0 x rfl (by omega);have:=Xy f c (l:=l) (.inr ⟨i,fun k y ao cD=>h (k+1) y (by simpa using ao) (by omega)⟩) fun y aE=>ar y (n3 _ aE);simp only[dH,a8];omega
theorem acI:∀l:List Bool,l.Nodup->l.length<=2
 |[],_=>by simp
 |[_],_=>by simp
 |[_,_],_=>by simp
 |a::b::c::l,h=>by
  simp only[List.nodup_cons,jt,not_or] at h;obtain⟨⟨aa,af,_⟩,⟨az,_⟩,_⟩:=h;cases a<;>cases b<;>cases c<;>first|exact absurd rfl aa|exact absurd rfl af|exact absurd rfl az
theorem Yf{cX:List Path}{N:Nat}(ak:q7 cX N)(s t:Int):(ml cX s).count t<=2:=by
 have ay:=((OZ cX N).1 ak).2;have e:(ml cX s).count t=((cX.filter fun p=>decide (p.src=s)&&decide (p.dst=t)).map (·.free)).length:=by
  rw[ml,List.count_eq_countP,List.countP_map,List.countP_eq_length_filter,List.filter_filter,eu]
  congr 1
  refine List.filter_congr fun p _=>?_;simp only[Function.comp];rw[Bool.and_comm];rfl
 rw[e];refine acI _ ?_;rw[List.Nodup,List.pairwise_map];have af:((cX.filter fun p=>decide (p.src=s)&&decide (p.dst=t))).Pairwise fun o p=>¬W8 o p:=ay.filter _;refine List.Pairwise.imp_of_mem ?_ af;intro a b a9 aj zC he;have az:=(oU.1 a9).2;have bh:=(oU.1 aj).2;simp only[cc,decide_eq_true_eq] at az bh;exact zC ⟨az.1.trans bh.1.symm,az.2.trans bh.2.symm,he⟩
theorem Yg{cX:List Path}{s t:Int}(h:t∈ml cX s):∃p∈cX,p.src=s/\p.dst=t:=by
 obtain⟨p,ay,rfl⟩:=lr.1 h;obtain⟨aa,af⟩:=oU.1 ay;exact⟨p,aa,of_decide_eq_true af,rfl⟩
theorem Ye{n:Net}{q:Query}{d:Int->Nat}{l:aJ}:∀cX:List Path,dH (iR n q d) (se q l cX)<=dH (fun t=>1+n5 (hN q l)*(lz n.runs).count t) (ml cX l.place.stop)
 |[]=>cH _
 |p::cX=>by
  have bu:=Ye (n:=n) (q:=q) (d:=d) (l:=l) cX;show dH _ (_++_)<=_;rw[uH];by_cases ay:p.src=l.place.stop
  . have e:ml (p::cX) l.place.stop=p.dst::ml cX l.place.stop:=by simp[ml,ay]
    rw[e];have aa:dH (iR n q d) (yO q l p)<=1+n5 (hN q l)*(lz n.runs).count p.dst:=by
     unfold yO;split
     . have:iR n q d (AV l p)=1+n5 (hN q l)*(lz n.runs).count p.dst:=rfl
       simp only[dH,this,iT];exact cH _
     . exact fR _
    exact Nat.add_le_add aa bu
  . have e:ml (p::cX) l.place.stop=ml cX l.place.stop:=by simp[ml,ay]
    have bd:yO q l p=[]:=by
     unfold yO yP;rw[decide_eq_false ay];rfl
    rw[e,bd];show 0+_<=_;omega
theorem Xz{α:Type}(b:Nat)(f:α->Nat):∀K:List α,dH (fun t=>1+b*f t) K=K.length+b*dH f K
 |[]=>rfl
 |x::K=>by simp only[dH,Xz b f K,dC,Nat.mul_add];omega
theorem Wh{n:Net}{q:Query}{d:Int->Nat}(E:Env n q d){l:aJ}(ag:l.b5<=q.b5)(t:Int):dH (iR n q d) (nb n q l t)<=ms (hN q l):=by
 have aa:=QN E ag t;have af:=Ye (n:=n) (q:=q) (d:=d) (l:=l) n.paths;rw[Xz] at af;have ak:=E.ok.ok.sound;have eN:=((OZ _ _).1 ak).1;have aRi:=abS E.ok.runs E.ok.calls;have az:=LO (K:=l.place.stop::ml n.paths l.place.stop) (m:=2) (fun x=>by
  rw[List.count_cons];by_cases ad:l.place.stop=x
  . have a8:(ml n.paths l.place.stop).count x=0:=List.count_eq_zero.2 fun hm=>by
     obtain⟨p,ay,a4,bd⟩:=Yg hm;exact(eN p ay).2 (a4.trans (ad.trans bd.symm))
    rw[a8];split<;>omega
  . rw[if_neg (by simpa using ad)]
    have:=Yf ak l.place.stop x;omega) (lz n.runs);have bh:(ml n.paths l.place.stop).length<=10:=by
  have bC:=LO (K:=ml n.paths l.place.stop) (m:=2) (fun x=>Yf ak _ x) [0,1,2,3,4];refine kb (Kz (f:=fun t=>([0,1,2,3,4]:List Int).count t) fun x ad=>?_) bC;obtain⟨p,ay,_,rfl⟩:=Yg ad;obtain⟨⟨_,⟨ig,d1⟩,_⟩,_⟩:=eN p ay;have:=E.ok.stops;rcases(show p.dst=0∨p.dst=1∨p.dst=2∨p.dst=3∨p.dst=4 by omega) with e|e|e|e|e<;>rw[e]<;>decide
 rw[show dH (fun t=>(lz n.runs).count t) (l.place.stop::ml n.paths l.place.stop)=(lz n.runs).count l.place.stop+dH (fun t=>(lz n.runs).count t) (ml n.paths l.place.stop) from rfl] at az;unfold nb;rw[uH,aaR];show dH _ (lC n q l t)+dH _ (se q l n.paths)<=_;have ca:n5 (hN q l)*(lz n.runs).count l.place.stop+n5 (hN q l)*dH (fun t=>(lz n.runs).count t) (ml n.paths l.place.stop)<=84*n5 (hN q l):=by
  rw[<-Nat.mul_add,Nat.mul_comm 84];exact Nat.mul_le_mul_left _ (by omega)
 omega
theorem Xl(n:Net)(l:aJ)(w:aJ->Nat):∀xs:List dG,dH w (td n l xs)=dH (fun x=>dH w (yC n l x)) xs
 |[]=>rfl
 |x::xs=>by
  show dH _ (_++_)=_;rw[uH,Xl n l w xs];rfl
theorem aPn{n:Net}{q:Query}{d:Int->Nat}(E:Env n q d){l:aJ}(h:ke n q d l)(ao:l.place.kind=1):
 dH (iR n q d) (tc n l)<=(1+ms (hN q l))*(if l.place.cm+1=((ki n l.place.run.toNat).length:Int) then 5*d l.place.run else 0):=by
 obtain⟨i,k,r,c,y,R⟩:=h.rd ao;have a_:∀x,oN n l x=false->dH (iR n q d) (yC n l x)=0:=fun x ad=>by
  unfold yC;rw[ad];rfl
 unfold tc;rw[Xl];refine Xy _ _ ?_ fun x ad=>?_
 . by_cases eg:∀x∈n.ch,oN n l x=false
   . exact .inl fun x ad=>a_ x (eg x ad)
   . obtain⟨x,ad,ak⟩:∃x∈n.ch,oN n l x=true:=Classical.byContradiction fun aK=>eg fun x ad=>by
      cases aj:oN n l x with
      |false=>rfl
      |true=>exact absurd ⟨x,ad,aj⟩ aK
     obtain⟨j,ap⟩:=ir ad;refine .inr ⟨j,fun m z hm cD=>a_ z ?_⟩;cases aj:oN n l z with
     |false=>rfl
     |true=>
      exfalso;simp only[oN,cc,decide_eq_true_eq] at ak aj;have e:x.src=z.src:=ak.2.1.trans aj.2.1.symm;rcases Nat.lt_or_gt_of_ne cD with bx|bx
      . exact((E.ok.ok.ch.2 j x ap).uniq ak.1 m z bx hm aj.1).1 e.symm
      . exact((E.ok.ok.ch.2 m z hm).uniq aj.1 j x bx ap ak.1).1 e
 . cases aj:oN n l x with
   |false=>rw[a_ x aj];exact fR _
   |true=>
    obtain⟨j,ap⟩:=ir ad;have vu:=E.ok.ok.ch.2 j x ap;have mz:=aj;simp only[oN,cc,decide_eq_true_eq] at mz;obtain⟨s1,dq,wc,kR⟩:=mz;obtain⟨ig,d1⟩:=vu.dst;have g2:=E.down x.src x.dst ⟨x,ad,s1,rfl,rfl⟩;unfold Hx at kR;split at kR
    . rename_i fO jY
      split at kR
      . rename_i cK rz
        have xP:n.runs[x.src.toNat]? =some r:=by rw[dq,R.run];exact R.an
        obtain⟨a4,_⟩:=(vu.calls r fO xP jY).2.2.2 s1;have sI:ki n l.place.run.toNat=r.calls:=by rw[R.run];simp only[ki,kU,R.an]
        rw[if_pos (by rw[sI];omega)];unfold yC;rw[aj,if_pos rfl];refine kb (XP (q:=q) (d:=d) jY rz) (Nat.mul_le_mul_left _ ?_);have Uf:=E.ok.calls fO (dQ jY);rw[Int.toNat_of_nonneg ig,<-dq];omega
      . cases kR
    . cases kR
theorem aMY{n:Net}{q:Query}{d:Int->Nat}(E:Env n q d){l:aJ}(h:ke n q d l):dH (iR n q d) (mL n q l)+1<=iR n q d l:=by
 have an:=h.b5.2;unfold mL;split
 . rename_i ao
   have aa:=aPn E h ao;have af:dH (iR n q d) (ut n q l)<=ms (hN q l):=by
    unfold ut;split
    . exact Wh E (l:=lB l) an _
    . exact fR _
   unfold w_;rw[uH];have e:iR n q d l=(1+ms (hN q l))+(1+ms (hN q l))*(if l.place.cm+1=((ki n l.place.run.toNat).length:Int) then 5*d l.place.run else 0):=by
    unfold iR;rw[if_pos ao,Nat.mul_add,kY]
   rw[e];omega
 . rename_i ao
   split
   . rename_i l9
     have aa:=QN (d:=d) E an l.time;have e:iR n q d l=1+n5 (hN q l)*(lz n.runs).count l.place.stop:=by unfold iR;rw[if_neg ao,if_pos l9]
     rw[e];omega
   . rename_i l9
     have aa:=Wh (d:=d) E an (nd n q l);have e:iR n q d l=1+ms (hN q l):=by unfold iR;rw[if_neg ao,if_neg l9]
     rw[e];omega
theorem aGZ{n:Net}{q:Query}{d:Int->Nat}(E:Env n q d)(az:q.b5<=3):PK n q (ke n q d) (iR n q d):=by
 refine⟨fun l h=>h.Vu E,fun l h=>aMX E h,fun l h=>aMY E h,aPl E,?_⟩;have e:iR n q d (oM q)=1+ms (q.b5 -0).toNat:=rfl;have a8:=E.b5.1;rw[e];rcases(show q.b5=0∨q.b5=1∨q.b5=2∨q.b5=3 by omega) with e|e|e|e<;>rw[e]<;>decide
end Go.aL.C
namespace Go.aL.C
open Go.aL
section
variable(f:bp)(t:c4)
theorem Qj(l:List bf)(i k:Nat)(R:Nat->Option (List b_))(a:Option (List b_)):∀p,k2 {f with tag:=t} l i k R a p=k2 f l i k R a p
 |0=>rfl
 |p+1=>by
  show nW (k2 _ l i k R a p) (jj f l i k p R)=_;rw[Qj];rfl
theorem Qc(l:List bf)(i:Nat)(R:Nat->Option (List b_)):∀j,kf {f with tag:=t} l i R j=kf f l i R j
 |0=>rfl
 |j+1=>by
  show k2 _ l i (i+j) R (kf _ l i R j) f.cR.length=_;rw[Qc,Qj];rfl
theorem XE(l:List bf):∀j,fQ {f with tag:=t} l j=fQ f l j
 |0=>rfl
 |j+1=>by
  show js (fQ _ l j) _ (kf _ l _ (fQ _ l j) (j+1))=_;rw[XE,Qc];rfl
theorem aEI(l:List bf):iZ {f with tag:=t} l=iZ f l:=by
 unfold iZ jS;rw[XE];rfl
end
theorem aEH(n:Net)(q:Query)(l:List bf):iZ (f6 n q).dD l=iZ n.dD l:=aEI n.dD _ l
theorem Kq(n:Net)(q:Query)(i:Nat):(f6 n q).runs[i]? =(n.runs[i]?).map (i0 n q):=gX
theorem Rl(n:Net)(q:Query)(i:Nat):ki (f6 n q) i=(ki n i).map (f9 n q):=by
 simp only[ki,Kq];cases n.runs[i]? <;>rfl
theorem aQW(n:Net)(q:Query):∀(cs:List bG),pU (f6 n q) (cs.map (f9 n q))=pU n cs:=by
 have:∀(cs:List bG)(a:Nat),(cs.map (f9 n q)).foldl (fun z c=>z|||j4 (sg (f6 n q) c.stop)) a=cs.foldl (fun z c=>z|||j4 (sg n c.stop)) a:=fun cs=>by
  induction cs with
  |nil=>exact fun _=>rfl
  |cons c cs bu=>
   intro a;simp only[hY,List.foldl_cons,yx,bu];rfl
 exact fun cs=>this cs 0
theorem aQS(n:Net)(q:Query)(l:cd):AY (f6 n q) l=AY n l:=by
 have e:qD (f6 n q) l=(qD n l).map (f9 n q):=by simp only[qD,Rl,List.map_take,List.map_drop]
 unfold AY;rw[e,aQW]
theorem aMe(n:Net)(q:Query)(l:cd):yb (f6 n q) l=yb n l:=by
 unfold yb;rw[Kq];cases n.runs[l.run.toNat]? <;>rfl
theorem aEw(n:Net)(q:Query)(l:cd):ob (f6 n q) l=ob n l:=by
 unfold ob;rw[Kq];cases n.runs[l.run.toNat]? with
 |none=>rfl
 |some r=>
  show(_&&(_&&(_&&decide (l.fC<(((r.calls.map (f9 n q)).length:Nat):Int)))))=_;rw[eu]
theorem WT(n:Net)(q:Query):∀(a3:List cd)(b:Bool)(out:List bf),r3 (f6 n q) b a3 out=r3 n b a3 out
 |[],_,_=>rfl
 |l::ls,b,out=>by
  unfold r3;rw[aEw];have e:lQ (f6 n q) out l=lQ n out l:=by
   unfold lQ OG AL;rw[aQS,aMe]
  rw[e,WT n q ls]
theorem aOm(n:Net)(q:Query)(a3:List cd):hx (f6 n q) a3=hx n a3:=WT n q a3 _ _
structure A9(n:Net)(q:Query)(o:de):Prop where
 a3:q4 n o.a3
 ends:Ends n o.a3
 l2:(oE o.a3:Int)<=q.b5
 len:o.a3.length<=1000
 lc:o.lc=.cx
 O8:o.O8=.cx
 cost:o.cost=(lD n q o.a3).1
 EO:o.EO=(lD n q o.a3).2.1
 ok:(lD n q o.a3).2.2=0
theorem aQj{n:Net}{q:Query}{d:Int->Nat}(E:Env n q d){l:aJ}(h:ke n q d l){o:de}(aA:o∈pT n q l):A9 n q o:=by
 have key:Ends n l.a3->o∈k7 n q l->A9 n q o:=by
  intro he aA;unfold k7 tB at aA;split at aA
  . split at aA
    . rename_i a_
      rw[gZ.1 aA];have aa:=h.l2;have af:=h.b5;have az:=(h.Vu E).1.a3;exact⟨h.a3,he,by show(oE l.a3:Int)<=q.b5;omega,by show l.a3.length<=1000;omega,rfl,rfl,rfl,rfl,a_⟩
    . cases aA
  . cases aA
 unfold pT at aA;split at aA
 . rename_i ao
   unfold tz at aA;split at aA
   . rename_i a9
     exact key (h.lB ao a9).1.ends aA
   . cases aA
 . rename_i ao
   exact key (h.on ao).ends aA
theorem aDg{l:List de}{o:de}(h:o∈sw l):o∈l:=by
 obtain⟨v,_,aq⟩:=List.mem_flatMap.1 h;unfold qJ at aq;rw[Option.mem_toList] at aq;exact List.mem_of_find?_eq_some aq
theorem Y5(n:Net)(q:Query)(aK:n.wf)(ok:f4 n)(aG:q6 n.stops.length q)(az:q.b5<=3)(aj:q.back=false):
 bT au D3 [.agg n.row,.agg q.row] (fun v=>∃L:List de,v=.tuple [.slice (L.map de.row) .cx,.int .i64 0]/\L.length<=400000000000/\∀o∈L,A9 (f6 n q) (plain q) o):=by
 have jK:=Li n q ok;obtain⟨d,aw,ca⟩:=aNJ jK;have E:Env (f6 n q) (plain q) d:=⟨jK,aw,ca,aG.time,aG.b5,aG.walk,aG.src⟩;refine bT.mono (aON n q aK ok aG aj _ _ (aGZ E az)) ?_;rintro v ⟨A,O,rfl,bN⟩;have hlen:(sw O).length<=400000000000:=by
  refine kb (St _ (Wu O) _) (kb (Mr _) ?_);rw[eu];exact bN.len
 refine⟨sw O,rfl,hlen,fun o aA=>?_⟩;obtain⟨l,ag,aq⟩:=bN.from_ o (aDg aA);exact aQj E ag aq
end Go.aL.C
namespace Go.aL.C
open Go.aL
theorem A9.xc{n:Net}{q j6:Query}{o:de}(h:A9 (f6 n q) j6 o):(hx n o.a3).1=0/\(iZ n.dD (hx n o.a3).2).2.2=0/\o.cost.xc=(iZ n.dD (hx n o.a3).2).1/\o.EO=(iZ n.dD (hx n o.a3).2).2.1:=by
 have aa:=h.cost;have af:=h.EO;have az:=h.ok;unfold lD at aa af az;simp only[aOm,aEH] at aa af az;by_cases a4:(hx n o.a3).1=0
 . rw[if_neg (by simpa using a4)] at aa af az
   by_cases bd:(iZ n.dD (hx n o.a3).2).2.2=0
   . rw[if_neg (by simpa using bd)] at aa af
     exact⟨a4,bd,by rw[aa],af⟩
   . rw[if_pos bd] at az;exact absurd az bd
 . rw[if_pos a4] at az;exact absurd az a4
end Go.aL.C
