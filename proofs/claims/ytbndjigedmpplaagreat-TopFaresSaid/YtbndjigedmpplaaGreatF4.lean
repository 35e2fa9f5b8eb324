/- A part of the proof of TopFares: the abstract machine, the code that the statement reaches, the contracts of its functions. Part 4. The text is made short by a program. -/
import Derived.Test.YtbndjigedmpplaaGreatF3
set_option linter.unusedSimpArgs false
set_option linter.unusedVariables false
set_option linter.unusedSectionVars false
set_option maxHeartbeats 1000000
set_option maxRecDepth 10000
open Bool renaming and_eq_true->b_,and_self->eR,false_eq_true->i_,not_eq_true'->lH
open Int renaming toNat_natCast->lI
open List renaming append_assoc->eB,append_nil->fU,drop_eq_getElem_cons->qx,drop_zero->l9,getElem?_append_left->gh,getElem?_append_right->jX,getElem?_cons_zero->ja,getElem?_drop->kL,getElem?_eq_some_iff->bn,getElem?_map->gY,getElem?_of_mem->ij,getElem?_set_ne->dx,getElem?_set_self->eC,getElem?_take_of_lt->hs,length_append->dT,length_cons->dz,length_map->eD,length_nil->gZ,length_set->eO,length_take->iw,map_cons->hQ,map_nil->lb,mem_append->g_,mem_cons->jm,mem_cons_of_mem->oG,mem_filter->oH,mem_map->ld,mem_of_getElem?->dO,mem_range->jY,mem_singleton->ht,not_mem_nil->mF,range->c1,replicate->fV,take_add_one->hR,take_length->g0,take_of_length_le->g1
open Nat renaming add_mul->ik,add_zero->iJ,le_refl->cF,le_trans->jH,lt_or_ge->mG,mul_one->kN,not_lt_zero->fb,sub_self->mH,zero_add->ev,zero_le->fG
open Ne renaming symm->gi
open Option renaming map_eq_some_iff->dJ,map_some->mI
open Option.some renaming injEq->aV
namespace Go.aQ.C
open Go.aQ
theorem WQ{l:List bK}{i:Nat}{t:bK}(h:l[i]? =some t):e7 (l.take (i+1))=e7 (l.take i)+t.ga:=by
 rw[e7,e7,hR,h,List.map_append,List.sum_append];simp
def Small(l:List bK):Prop:=∀t∈l,0<=t.ga/\t.ga<=1000000
theorem aMA{l:List bK}(h:Small l):0<=e7 l/\e7 l<=1000000*l.length:=by
 induction l with
 |nil=>simp[e7]
 |cons t l bq=>
  have U:=bq fun gD gG=>h gD (by simp[gG]);have af:=h t (by simp);have e:e7 (t::l)=t.ga+e7 l:=by simp[e7]
  rw[e,dz];omega
theorem Small.take{l:List bK}(h:Small l)(i:Nat):Small (l.take i):=fun t aT=>h t (List.mem_of_mem_take aT)
theorem Xa{f:bd}{n:Nat}:nS f n=0↔(j6 f).2=0/\n<=8:=by
 unfold nS;split
 . rename_i h;constructor
   . intro e;simp at e
   . intro e;exact absurd e.1 h
 . rename_i h
   split
   . constructor
     . intro e;simp at e
     . intro e;omega
   . simp only[ne_eq,Decidable.not_not] at h
     exact⟨fun _=>⟨h,by omega⟩,fun _=>rfl⟩
def kA(f:bd)(l:List a1)(t:bK)(next:Int):Int:=
 if t.product<0∨(f.cH.length:Int)<=t.product then 9
 else if t.first≠next∨t.last<t.first∨(l.length:Int)<=t.last then 8
 else match f.cH[t.product.toNat]? with
  |none=>9
  |some p=>if kT p (part l t.first.toNat t.last.toNat)=false then 34 else if t.ga≠hO f p l t.first.toNat then 1 else 0
def oB(f:bd)(l:List a1):List bK->Int->Int->Int×Int
 |[],next,sum=>if next≠l.length then(0,8) else(pL f sum,0)
 |t::d5,next,sum=>if kA f l t next≠0 then(0,kA f l t next) else oB f l d5 (t.last+1) (sum+t.ga)
def wd(f:bd)(l:List a1)(d5:List bK):Int×Int:=if nS f l.length≠0 then(0,nS f l.length) else oB f l d5 0 0
theorem Wk(l:List a1)(i k:Nat)(c:c3)(M:Mem)(iU:i<=k)(ao:k<l.length):
 g7 4 (.slice (l.map a1.row) c) (some (.int .i64 i)) (some (.int .i64 ((k:Int)+1))) none M=some (.slice ((part l i k).map a1.row) (nm c (k+1) l.length l.length false)):=by
 rw[Wi 4 _ c _ _ _ _ M (by omega) (by omega) (by simp;omega) (u9 (f:=a1.row) (fun r=>rfl) l),eD];have a6:((i:Int)).toNat=i:=by omega
 have ba:((k:Int)+1).toNat=k+1:=by omega
 rw[a6,ba,aJU]
theorem Rf(f:bd)(l:List a1)(c:c3)(t:bK)(next:Int)(aC:f.wf)(bR:f.hS)(ag:∀r∈l,r.wf)(hlen:l.length<=8)(aK:0<=next):
 bQ av HC [.agg f.row,.slice (l.map a1.row) c,.agg t.row,.int .i64 next] (fun v=>v=.int .i64 (kA f l t next)):=by
 have hm:maxLen=9223372036854775807:=by rfl
 refine bZ aCh (by simp[FB]) ?_;simp-implicitDefEqProofs (disch:=omega) only[go_sem,FB,bd.row,bK.row];refine a5 (fun U=>?_) (fun U=>?_)
 . simp-implicitDefEqProofs (disch:=omega) only[go_sem,kA]
   rw[if_pos (.inl U)]
 simp-implicitDefEqProofs (disch:=omega) only[go_sem];refine a5 (fun af=>?_) (fun af=>?_)
 . simp-implicitDefEqProofs (disch:=omega) only[go_sem,kA]
   rw[if_pos (.inr af)]
 simp-implicitDefEqProofs (disch:=omega) only[go_sem];refine a5 (fun ay=>?_) (fun ay=>?_);rotate_left
 . simp-implicitDefEqProofs (disch:=omega) only[go_sem,kA]
   rw[if_neg (by omega),if_pos (.inl ay)]
 simp-implicitDefEqProofs (disch:=omega) only[go_sem];refine a5 (fun be=>?_) (fun be=>?_)
 . simp-implicitDefEqProofs (disch:=omega) only[go_sem,kA]
   rw[if_neg (by omega),if_pos (.inr (.inl be))]
 simp-implicitDefEqProofs (disch:=omega) only[go_sem];refine a5 (fun bv=>?_) (fun bv=>?_)
 . simp-implicitDefEqProofs (disch:=omega) only[go_sem,kA]
   rw[if_neg (by omega),if_pos (.inr (.inr bv))]
 obtain⟨q,aG⟩:∃q:Nat,t.product=q:=⟨t.product.toNat,by omega⟩;obtain⟨i,hi⟩:∃i:Nat,t.first=i:=⟨t.first.toNat,by omega⟩;obtain⟨k,ao⟩:∃k:Nat,t.last=k:=⟨t.last.toNat,by omega⟩;obtain⟨p,ax⟩:∃p,f.cH[q]? =some p:=⟨f.cH[q]'(by omega),by simp⟩;have vm:=dO ax;have sm:kA f l t next=if kT p (part l i k)=false then 34 else if t.ga≠hO f p l i then 1 else 0:=by
  rw[kA,if_neg (by omega),if_neg (by omega),aG,hi,ao];simp only[lI,ax]
 simp-implicitDefEqProofs (disch:=omega) only[go_sem,aG,hi,ao,ax,dk.row,Wk l i k _ _ (show i<=k by omega) (show k<l.length by omega)];first|refine b0 (An p (part l i k) _ (aC.1 p vm) (fun r al=>ag r (Ak al)) (by rw[D5 (by omega)];omega)) ?_|refine bV (An p (part l i k) _ (aC.1 p vm) (fun r al=>ag r (Ak al)) (by rw[D5 (by omega)];omega)) ?_
 simp-implicitDefEqProofs (disch:=omega) only[go_sem];refine cp (fun b7=>?_) (fun b7=>?_);rotate_left
 . simp-implicitDefEqProofs (disch:=omega) only[go_sem,sm]
   rw[if_pos b7]
 simp-implicitDefEqProofs (disch:=omega) only[go_sem,aG,hi,ao,ax,dk.row];first|refine b0 (Fq f p l c i aC bR (bR.vT p vm).1 ag (by omega) (by omega)) ?_|refine bV (Fq f p l c i aC bR (bR.vT p vm).1 ag (by omega) (by omega)) ?_
 simp-implicitDefEqProofs (disch:=omega) only[go_sem];refine a5 (fun dQ=>?_) (fun dQ=>?_)
 . simp-implicitDefEqProofs (disch:=omega) only[go_sem,sm]
   rw[if_neg (by simp[b7]),if_neg (by simp[dQ])]
 . simp-implicitDefEqProofs (disch:=omega) only[go_sem,sm]
   rw[if_neg (by simp[b7]),if_pos dQ]
theorem Vi{f:bd}{l:List a1}{t:bK}{next:Int}(bR:f.hS)(h:kA f l t next=0):
 t.first=next/\t.first<=t.last/\t.last<l.length/\0<=t.ga/\t.ga<=1000000:=by
 unfold kA at h;split at h
 . simp at h
 rename_i U;split at h
 . simp at h
 rename_i af;split at h
 . simp at h
 rename_i p ax;split at h
 . simp at h
 split at h
 . simp at h
 rename_i ay;simp only[ne_eq,Decidable.not_not] at ay;have:=Of (f:=f) (l:=l) (i:=t.first.toNat) (bR.vT p (dO ax)).1 bR.lq.1;omega
theorem A7{α:Type}{l:List α}{i:Nat}{t:α}(h:l[i]? =some t):l.drop i=t::l.drop (i+1):=by
 obtain⟨U,af⟩:=bn.1 h;rw[qx U,af]
theorem aM3{f:bd}{l:List a1}{d5:List bK}{i:Nat}{t:bK}{next sum:Int}(h:d5[i]? =some t)(he:kA f l t next≠0):oB f l (d5.drop i) next sum=(0,kA f l t next):=by
 rw[A7 h,oB,if_pos he]
theorem aM4{f:bd}{l:List a1}{d5:List bK}{i:Nat}{t:bK}{next sum:Int}(h:d5[i]? =some t)(he:kA f l t next=0):oB f l (d5.drop i) next sum=oB f l (d5.drop (i+1)) (t.last+1) (sum+t.ga):=by
 rw[A7 h,oB,if_neg (by simp[he])]
theorem aMt{d5:List bK}{i:Nat}{t:bK}(h:d5[i]? =some t)(ak:Small (d5.take i))(aT:0<=t.ga/\t.ga<=1000000):Small (d5.take (i+1)):=by
 rw[hR,h];intro gD zG;rcases g_.1 zG with U|U
 . exact ak gD U
 . simp at U;subst U;exact aT
theorem aBI(f:bd)(l:List a1)(c:c3)(d5:List bK)(d:c3)(aC:f.wf)(ag:∀r∈l,r.wf):
 bQ av HB [.agg f.row,.slice (l.map a1.row) c,.slice (d5.map bK.row) d] (fun v=>v=ic (wd f l d5)):=by
 have hm:maxLen=9223372036854775807:=by rfl
 refine bZ aCg (by simp[FA]) ?_;simp-implicitDefEqProofs (disch:=omega) only[go_sem,FA,bd.row];first|refine b0 (Fr f l c aC) ?_|refine bV (Fr f l c aC) ?_
 simp-implicitDefEqProofs (disch:=omega) only[go_sem];refine a5 (fun U=>?_) (fun U=>?_);rotate_left
 . simp-implicitDefEqProofs (disch:=omega) only[go_sem,wd,ic]
   rw[if_pos U]
 have gm:wd f l d5=oB f l d5 0 0:=by rw[wd,if_neg (by simp[U])]
 obtain⟨ar,hlen⟩:=Xa.1 U;have bR:=wK ar;simp-implicitDefEqProofs (disch:=omega) only[go_sem];refine ek d5 (fun i vs M=>∃next:Nat,Small (d5.take i)/\i<=next/\next<=l.length/\wd f l d5=oB f l (d5.drop i) next (e7 (d5.take i))/\
  vs=[.slice (l.map a1.row) c,.ptr 0 0,.int .i64 next,.int .i64 (e7 (d5.take i)),.slice (d5.map bK.row) d,.int .i64 d5.length,.int .i64 i]/\M=[.box f.row]) ⟨0,by simp[Small],by omega,by omega,by rw[gm];rfl,rfl,rfl⟩ ?_ ?_
 . rintro i t vs M aT hi aw ⟨next,ak,ey,vl,aq,rfl,rfl⟩
   have ay:(d5.take i).length<=i:=by simp;omega
   have be:=aMA ak;simp-implicitDefEqProofs (disch:=omega) only[go_sem,aw,aT,bK.row];first|refine b0 (Rf f l c t next aC bR ag hlen (by omega)) ?_|refine bV (Rf f l c t next aC bR ag hlen (by omega)) ?_
   simp-implicitDefEqProofs (disch:=omega) only[go_sem];refine a5 (fun bv=>?_) (fun bv=>?_);rotate_left
   . have a6:=aq.trans (aM3 aT bv)
     simp-implicitDefEqProofs (disch:=omega) only[go_sem,a6,ic,bd.row]
   obtain⟨aW,a9,bN,c5,er⟩:=Vi bR bv;have pl:=aq.trans (aM4 aT bv);obtain⟨k,ao⟩:∃k:Nat,t.last=k:=⟨t.last.toNat,by omega⟩;simp-implicitDefEqProofs (disch:=omega) only[go_sem];refine dC hi rfl ⟨k+1,aMt aT ak ⟨c5,er⟩,by omega,by omega,?_,?_,rfl⟩
   . rw[pl,WQ aT,ao];rfl
   . rw[WQ aT,ao];rfl
 . rintro vs M ⟨next,ak,ey,vl,aq,rfl,rfl⟩
   rw[List.drop_length,g0] at aq;simp-implicitDefEqProofs (disch:=omega) only[go_sem,dg,g0,bd.row];refine a5 (fun bv=>?_) (fun bv=>?_);rotate_left
   . rw[oB,if_pos bv] at aq
     simp-implicitDefEqProofs (disch:=omega) only[go_sem,aq,ic,bd.row,g0]
   rw[oB,if_neg (by simp[bv])] at aq;simp-implicitDefEqProofs (disch:=omega) only[go_sem,bd.row];first|refine b0 (Fp f _) ?_|refine bV (Fp f _) ?_
   simp-implicitDefEqProofs (disch:=omega) only[go_sem,aq,ic,g0]
def rD(o:Option (List bK)):Bool:=o.isSome
def sK(o:Option (List bK)):Int:=match o with|some d=>e7 d|none=>0
def vW(o:Option (List bK)):Int:=match o with|some d=>(d.length:Int)|none=>0
def qr(o:Option (List bK)):bK:=match o with|some (t::_)=>t|_=>⟨0,0,0,0⟩
def kF(o:Option (List bK)):List V:=[.bool (rD o),.int .i64 (sK o),.int .i64 (vW o),.int .i64 (qr o).product,.int .i64 (qr o).first,.int .i64 (qr o).last,.int .i64 (qr o).ga]
def d8(T:Nat->Option (List bK)):List V:=
 kF (T 0)++kF (T 1)++kF (T 2)++kF (T 3)++kF (T 4)++kF (T 5)++kF (T 6)++kF (T 7)++kF (T 8)
def jl(T:Nat->Option (List bK))(i:Nat)(o:Option (List bK)):Nat->Option (List bK):=fun j=>if j=i then o else T j
theorem Om(T:Nat->Option (List bK))(i:Nat)(o:Option (List bK)):jl T i o i=o:=if_pos rfl
theorem AB(T:Nat->Option (List bK)){i j:Nat}(o:Option (List bK))(h:j≠i):jl T i o j=T j:=if_neg h
theorem aMM(T:Nat->Option (List bK))(i:Nat)(a b:Option (List bK)):jl (jl T i a) i b=jl T i b:=by
 funext j;unfold jl;split<;>rfl
theorem sC{p:Nat->Prop}(a4:p 0)(U:p 1)(af:p 2)(ay:p 3)(be:p 4)(bv:p 5)(b7:p 6)(dQ:p 7)(ch:p 8){j:Nat}(h:j<9):p j:=by
 match j,h with
 |0,_=>exact a4
 |1,_=>exact U
 |2,_=>exact af
 |3,_=>exact ay
 |4,_=>exact be
 |5,_=>exact bv
 |6,_=>exact b7
 |7,_=>exact dQ
 |8,_=>exact ch
theorem tl(T:Nat->Option (List bK)):(d8 T).length=63:=rfl
theorem aBX(T:Nat->Option (List bK)){j:Nat}(h:j<9):(d8 T)[j*7]? =some (.bool (rD (T j))):=
 sC (p:=fun j=>(d8 T)[j*7]? =some (.bool (rD (T j)))) rfl rfl rfl rfl rfl rfl rfl rfl rfl h
theorem aBY(T:Nat->Option (List bK)):(d8 T)[0]? =some (.bool (rD (T 0))):=rfl
theorem aBZ(T:Nat->Option (List bK)):(d8 T)[1]? =some (.int .i64 (sK (T 0))):=rfl
theorem aB0(T:Nat->Option (List bK)){j:Nat}(h:j<9):(d8 T)[j*7+1]? =some (.int .i64 (sK (T j))):=
 sC (p:=fun j=>(d8 T)[j*7+1]? =some (.int .i64 (sK (T j)))) rfl rfl rfl rfl rfl rfl rfl rfl rfl h
theorem aB1(T:Nat->Option (List bK)){j:Nat}(h:j<9):(d8 T)[j*7+2]? =some (.int .i64 (vW (T j))):=
 sC (p:=fun j=>(d8 T)[j*7+2]? =some (.int .i64 (vW (T j)))) rfl rfl rfl rfl rfl rfl rfl rfl rfl h
theorem aB2(T:Nat->Option (List bK)){j:Nat}(h:j<9):(d8 T)[j*7+3+2]? =some (.int .i64 (qr (T j)).last):=
 sC (p:=fun j=>(d8 T)[j*7+3+2]? =some (.int .i64 (qr (T j)).last)) rfl rfl rfl rfl rfl rfl rfl rfl rfl h
theorem aB7(T:Nat->Option (List bK)){j:Nat}(h:j<9):((d8 T).drop (j*7)).take 7=kF (T j):=
 sC (p:=fun j=>((d8 T).drop (j*7)).take 7=kF (T j)) rfl rfl rfl rfl rfl rfl rfl rfl rfl h
theorem aB8(T:Nat->Option (List bK)){j:Nat}(h:j<9):((d8 T).drop (j*7+3)).take 4=(qr (T j)).row:=
 sC (p:=fun j=>((d8 T).drop (j*7+3)).take 4=(qr (T j)).row) rfl rfl rfl rfl rfl rfl rfl rfl rfl h
theorem Rt(T:Nat->Option (List bK)):(d8 T).take 63=d8 T:=rfl
theorem Ru(T:Nat->Option (List bK)):nk (d8 T)=true:=rfl
theorem aB5(T:Nat->Option (List bK))(o:Option (List bK)){j:Nat}(h:j<9):gU (d8 T) (j*7) (kF o)=d8 (jl T j o):=by
 refine sC (p:=fun j=>gU (d8 T) (j*7) (kF o)=d8 (jl T j o)) ?_ ?_ ?_ ?_ ?_ ?_ ?_ ?_ ?_ h<;>simp[d8,gU,jl,kF]
theorem aB6{j:Nat}(h:j<9):gU (d8 (fun _=>none)) (j*7) [.bool true]=d8 (jl (fun _=>none) j (some [])):=by
 refine sC (p:=fun j=>gU (d8 (fun _=>none)) (j*7) [.bool true]=d8 (jl (fun _=>none) j (some []))) ?_ ?_ ?_ ?_ ?_ ?_ ?_ ?_ ?_ h<;>simp[d8,gU,jl,kF,rD,sK,vW,qr,e7]
theorem Fu(T:Nat->Option (List bK))(n:Nat):cS n (d8 T)=true:=rfl
theorem On(T:Nat->Option (List bK))(i:Nat):jl T i (T i)=T:=by funext j;unfold jl;split<;>simp_all
theorem Rw(T EO:Nat->Option (List bK)):gU (d8 T) 0 (d8 EO)=d8 EO:=by
 simp[d8,kF,gU]
theorem Rx:[V.bool false,.int .i64 0,.int .i64 0,.int .i64 0,.int .i64 0,.int .i64 0,.int .i64 0,.bool false,.int .i64 0,.int .i64 0,.int .i64 0,.int .i64 0,.int .i64 0,.int .i64 0,.bool false,.int .i64 0,.int .i64 0,.int .i64 0,.int .i64 0,.int .i64 0,.int .i64 0,.bool false,.int .i64 0,.int .i64 0,.int .i64 0,.int .i64 0,.int .i64 0,.int .i64 0,.bool false,.int .i64 0,.int .i64 0,.int .i64 0,.int .i64 0,.int .i64 0,.int .i64 0,.bool false,.int .i64 0,.int .i64 0,.int .i64 0,.int .i64 0,.int .i64 0,.int .i64 0,.bool false,.int .i64 0,.int .i64 0,.int .i64 0,.int .i64 0,.int .i64 0,.int .i64 0,.bool false,.int .i64 0,.int .i64 0,.int .i64 0,.int .i64 0,.int .i64 0,.int .i64 0,.bool false,.int .i64 0,.int .i64 0,.int .i64 0,.int .i64 0,.int .i64 0,.int .i64 0]=d8 (fun _=>none):=by
 simp[d8,kF,rD,sK,vW,qr]
theorem aB3(T:Nat->Option (List bK))(M:Mem)(n:Nat):fu M n 20 (.agg (d8 T))=some (.agg (d8 T)):=by
 simp[fu,ke,d8,kF,V.under]
attribute [irreducible] d8
def uN(o:Option (List bK))(s n:Int):Bool:=!rD o||(decide (s<sK o)||(decide (s=sK o)&&decide (n<vW o)))
theorem Rh(o:Option (List bK))(s n:Int):bQ av HE [.agg (kF o),.int .i64 s,.int .i64 n] (fun v=>v=.bool (uN o s n)):=by
 refine bZ RJ (by simp[By]) ?_;simp-implicitDefEqProofs (disch:=omega) only[go_sem,By,kF];refine cp (fun U=>?_) (fun U=>?_);rotate_left
 . simp-implicitDefEqProofs (disch:=omega) only[go_sem,uN,U]
   rfl
 simp-implicitDefEqProofs (disch:=omega) only[go_sem];refine a5 (fun af=>?_) (fun af=>?_)
 . simp-implicitDefEqProofs (disch:=omega) only[go_sem,uN,U,af]
   rfl
 simp-implicitDefEqProofs (disch:=omega) only[go_sem];refine a5 (fun ay=>?_) (fun ay=>?_)
 . simp-implicitDefEqProofs (disch:=omega) only[go_sem,uN,U,ay]
   simp
 . simp-implicitDefEqProofs (disch:=omega) only[go_sem,uN,U,af,ay]
   simp
def i9(f:bd)(l:List a1)(i k p:Nat)(R:Nat->Option (List bK)):Option (List bK):=
 match f.cH[p]? with
 |none=>none
 |some q=>if kT q (part l i k)=true then(R (k+1)).map (fun d=>⟨p,i,k,hO f q l i⟩::d) else none
def nO(a c:Option (List bK)):Option (List bK):=match c with|none=>a|some d=>if uN a (e7 d) d.length=true then some d else a
theorem v6(t:bK)(d:List bK):e7 (t::d)=t.ga+e7 d:=by simp[e7]
def OY(d:List bK):Prop:=0<=e7 d/\e7 d<=1000000*d.length/\d.length<=8
theorem aBJ(f:bd)(l:List a1)(c:c3)(T:Nat->Option (List bK))(i k p:Nat)(q:dk)(d:List bK)(aC:f.wf)(bR:f.hS)(ag:∀r∈l,r.wf)(hlen:l.length<=8)
 (iU:i<=k)(ao:k<l.length)(aG:f.cH[p]? =some q)(lP:T (k+1)=some d)(aw:OY d):
 cj av xI [.int .i64 i,.int .i64 k,.int .i64 p,.ptr 0 0,.ptr 1 0,.ptr 3 0] [.box f.row,.box [.slice (l.map a1.row) c],.box (d8 fun _=>none),.box (d8 T)]
  (fun v M=>v=.tuple []/\M=[.box f.row,.box [.slice (l.map a1.row) c],.box (d8 fun _=>none),.box (d8 (jl T i (nO (T i) (i9 f l i k p T))))]):=by
 have hm:maxLen=9223372036854775807:=by rfl
 have C9:=dO aG;obtain⟨d1,d2,aN3⟩:=aw;refine bZ RH (by simp[Bx]) ?_;simp-implicitDefEqProofs (disch:=omega) only[go_sem,Bx,bd.row,aG,dk.row,Wk l i k _ _ iU ao];first|refine b0 (An q (part l i k) _ (aC.1 q C9) (fun r al=>ag r (Ak al)) (by rw[D5 (by omega)];omega)) ?_|refine bV (An q (part l i k) _ (aC.1 q C9) (fun r al=>ag r (Ak al)) (by rw[D5 (by omega)];omega)) ?_
 simp-implicitDefEqProofs (disch:=omega) only[go_sem];refine cp (fun U=>?_) (fun U=>?_);rotate_left
 . have e:i9 f l i k p T=none:=by simp only[i9,aG,U];rfl
   simp-implicitDefEqProofs (disch:=omega) only[go_sem,e,nO,Fu,On]
 have e:i9 f l i k p T=some (⟨p,i,k,hO f q l i⟩::d):=by simp only[i9,aG,U,lP,if_true];rfl
 simp-implicitDefEqProofs (disch:=omega) only[go_sem,aG,dk.row];first|refine b0 (Fq f q l c i aC bR (bR.vT q C9).1 ag (by omega) (by omega)) ?_|refine bV (Fq f q l c i aC bR (bR.vT q C9).1 ag (by omega) (by omega)) ?_
 have al:=Of (f:=f) (l:=l) (i:=i) (bR.vT q C9).1 bR.lq.1;simp-implicitDefEqProofs (disch:=omega) only[go_sem,aB0,aB1,aB7,tl,lP,sK,vW];first|refine b0 (Rh (T i) _ _) ?_|refine bV (Rh (T i) _ _) ?_
 simp-implicitDefEqProofs (disch:=omega) only[go_sem];refine cp (fun af=>?_) (fun af=>?_)
 . have ba:nO (T i) (i9 f l i k p T)=some (⟨p,i,k,hO f q l i⟩::d):=by
    rw[e];simp only[nO,v6,dz,Int.natCast_succ,af,if_true]
   have ax:=aB5 T (some (⟨p,i,k,hO f q l i⟩::d)) (j:=i) (by omega);simp only[kF,rD,sK,vW,qr,gU,v6,dz,Option.isSome,Int.natCast_succ] at ax;simp-implicitDefEqProofs (disch:=omega) only[go_sem,ax,tl,ba,Fu]
 . have ba:nO (T i) (i9 f l i k p T)=T i:=by
    rw[e];simp only[nO,v6,dz,Int.natCast_succ,af];simp
   simp-implicitDefEqProofs (disch:=omega) only[go_sem,ba,Fu,On]
def kP(f:bd)(l:List a1)(i k:Nat)(R:Nat->Option (List bK))(a:Option (List bK)):Nat->Option (List bK)
 |0=>a
 |p+1=>nO (kP f l i k R a p) (i9 f l i k p R)
def j3(f:bd)(l:List a1)(i:Nat)(R:Nat->Option (List bK)):Nat->Option (List bK)
 |0=>none
 |j+1=>kP f l i (i+j) R (j3 f l i R j) f.cH.length
def fL(f:bd)(l:List a1):Nat->Nat->Option (List bK)
 |0=>jl (fun _=>none) l.length (some [])
 |j+1=>jl (fL f l j) (l.length -(j+1)) (j3 f l (l.length -(j+1)) (fL f l j) (j+1))
def i8(f:bd)(l:List a1):Nat->Option (List bK):=fL f l l.length
theorem WE(f:bd)(l:List a1):∀(j i:Nat),j<=l.length->i+j<l.length->fL f l j i=none
 |0,i,_,h=>by rw[fL,AB _ _ (by omega)]
 |j+1,i,ap,h=>by rw[fL,AB _ _ (by omega)];exact WE f l j i (by omega) (by omega)
theorem Qq(f:bd)(l:List a1)(i k p:Nat){R lM:Nat->Option (List bK)}(h:R (k+1)=lM (k+1)):i9 f l i k p R=i9 f l i k p lM:=by
 unfold i9;rw[h]
def Div(f:bd)(l:List a1):Nat->List bK->Prop
 |i,[]=>i=l.length
 |i,t::d=>t.first=i/\kA f l t i=0/\Div f l (t.last+1).toNat d
theorem azS{f:bd}{l:List a1}{i k p:Nat}{R:Nat->Option (List bK)}{d:List bK}(h:i9 f l i k p R=some d)(iU:i<=k)(ao:k<l.length)
 (fO:∀d,R (k+1)=some d->Div f l (k+1) d):Div f l i d:=by
 unfold i9 at h;cases aG:f.cH[p]? with
 |none=>rw[aG] at h;simp at h
 |some q=>
  rw[aG] at h;simp only at h;split at h
  . rename_i ar
    rw[dJ] at h;obtain⟨hB,U,rfl⟩:=h;have ax:p<f.cH.length:=(bn.1 aG).1;refine⟨rfl,?_,?_⟩
    . rw[kA,if_neg (by simp only;omega),if_neg (by simp only;omega)]
      simp only[lI,aG];rw[if_neg (by simp[ar]),if_neg (by simp)]
    . have:((k:Int)+1).toNat=k+1:=by omega
      simp only[this];exact fO hB U
  . simp at h
theorem Wu{a c:Option (List bK)}{d:List bK}(h:nO a c=some d):a=some d∨c=some d:=by
 unfold nO at h;cases c with
 |none=>exact .inl h
 |some e=>
  simp only at h;split at h
  . exact .inr h
  . exact .inl h
theorem Po{f:bd}{l:List a1}{i k:Nat}{R:Nat->Option (List bK)}{a:Option (List bK)}(iU:i<=k)(ao:k<l.length)
 (fO:∀d,R (k+1)=some d->Div f l (k+1) d)(bk:∀d,a=some d->Div f l i d):∀(p:Nat)(d:List bK),kP f l i k R a p=some d->Div f l i d
 |0,d,h=>bk d h
 |p+1,d,h=>by
  rcases Wu h with U|U
  . exact Po iU ao fO bk p d U
  . exact azS U iU ao fO
theorem Ph{f:bd}{l:List a1}{i:Nat}{R:Nat->Option (List bK)}(fO:∀k d,i<=k->k<l.length->R (k+1)=some d->Div f l (k+1) d):
 ∀(j:Nat)(d:List bK),i+j<=l.length->j3 f l i R j=some d->Div f l i d
 |0,d,_,h=>by simp[j3] at h
 |j+1,d,ap,h=>Po (by omega) (by omega) (fun d aw=>fO (i+j) d (by omega) (by omega) aw) (fun d aw=>Ph fO j d (by omega) aw) _ d h
theorem JN(f:bd)(l:List a1):∀(j i:Nat)(d:List bK),j<=l.length->i<=l.length->fL f l j i=some d->Div f l i d
 |0,i,d,_,hi,h=>by
  rw[fL] at h;unfold jl at h;split at h
  . simp only[aV] at h;subst h;assumption
  . simp at h
 |j+1,i,d,ap,hi,h=>by
  rw[fL] at h;unfold jl at h;split at h
  . rename_i e
    subst e;refine Ph (fun k d ao iV aw=>?_) _ d (by omega) h;exact JN f l j (k+1) d (by omega) (by omega) aw
  . exact JN f l j i d (by omega) hi h
theorem wL{f:bd}{l:List a1}(bR:f.hS):∀(d:List bK)(i:Nat),Div f l i d->0<=e7 d/\e7 d<=1000000*d.length/\d.length+i<=l.length
 |[],i,h=>by simp only[Div] at h;subst h;simp[e7]
 |t::d,i,⟨U,af,ay⟩=>by
  obtain⟨aW,a9,bN,c5,er⟩:=Vi bR af;have:=wL bR d _ ay;rw[v6,dz];omega
theorem aMr{f:bd}{l:List a1}(bR:f.hS)(hlen:l.length<=8){j i:Nat}{d:List bK}(ap:j<=l.length)(hi:i<=l.length)(h:fL f l j i=some d):OY d:=by
 have:=wL bR d i (JN f l j i d ap hi h);exact⟨this.1,this.2.1,by omega⟩
theorem aL9(a:Option (List bK)):nO a none=a:=rfl
theorem azT{f:bd}{l:List a1}{i k p:Nat}{R:Nat->Option (List bK)}(h:R (k+1)=none):i9 f l i k p R=none:=by
 unfold i9;rw[h];split
 . rfl
 . split<;>rfl
theorem Rg(f:bd)(l:List a1)(c:c3)(aC:f.wf)(bR:f.hS)(ag:∀r∈l,r.wf)(hlen:l.length<=8):
 bQ av HD [.agg f.row,.slice (l.map a1.row) c] (fun v=>v=.agg (d8 (i8 f l))):=by
 have hm:maxLen=9223372036854775807:=by rfl
 have lV:=bR.len;have mW:=aB6 (j:=l.length) (by omega);simp only[gU] at mW;refine bZ RI (by simp[Bw]) ?_;simp-implicitDefEqProofs (disch:=omega) only[go_sem,Bw,bd.row,Rx,tl,mW];refine gg l.length (fun j vs M=>vs=[.ptr 0 0,.ptr 2 0,.ptr 3 0,.int .i64 l.length,.fn xI [.ptr 0 0,.ptr 1 0,.ptr 3 0],.int .i64 ((l.length:Int) -1 -j)]/\
  M=[.box f.row,.box [.slice (l.map a1.row) c],.box (d8 fun _=>none),.box (d8 (fL f l j))]) ⟨by simp[dt,aY],by simp[bd.row,fL]⟩ ?_ ?_;rotate_left
 . rintro vs M ⟨rfl,rfl⟩
   have U:((l.length:Int) -1 -l.length)=-1:=by omega
   simp-implicitDefEqProofs (disch:=omega) only[go_sem,U];refine a5 (fun af=>?_) (fun af=>?_)
   . omega
   simp-implicitDefEqProofs (disch:=omega) only[go_sem,tl];rw[Rt,Rw,tl,Ru];simp only[go_sem,cond_true,Nat.reduceBEq];rw[tl,Rt];simp only[cond_true,Nat.reduceLeDiff,decide_true];rw[Vz,aB3];simp only[go_sem,i8,Fu];all_goals rfl
 rintro j vs M ap mn ⟨rfl,rfl⟩;obtain⟨i,hi⟩:∃i:Nat,(l.length:Int) -1 -j=i:=⟨l.length -1 -j,by omega⟩;simp-implicitDefEqProofs (disch:=omega) only[go_sem,hi];refine a5 (fun U=>?_) (fun U=>?_);rotate_left
 . omega
 simp-implicitDefEqProofs (disch:=omega) only[go_sem,bd.row];refine gg (j+1) (fun m vs M=>vs=[.ptr 0 0,.ptr 2 0,.ptr 3 0,.int .i64 l.length,.fn xI [.ptr 0 0,.ptr 1 0,.ptr 3 0],.int .i64 i,.int .i64 ((i+m:Nat):Int)]/\
  M=[.box f.row,.box [.slice (l.map a1.row) c],.box (d8 fun _=>none),.box (d8 (jl (fL f l j) i (j3 f l i (fL f l j) m)))]) ⟨by simp[dt,aY,hi],?_⟩ ?_ ?_
 . have e:fL f l j i=none:=WE f l j i (by omega) (by omega)
   have ba:jl (fL f l j) i none=fL f l j:=by rw[<-e,On]
   simp[bd.row,j3,ba]
 rotate_left
 . rintro vs M ⟨rfl,rfl⟩
   simp-implicitDefEqProofs (disch:=omega) only[go_sem];refine a5 (fun af=>?_) (fun af=>?_)
   . omega
   simp-implicitDefEqProofs (disch:=omega) only[go_sem,bd.row];have e:l.length -(j+1)=i:=by omega
   refine c6 ap ⟨?_,?_⟩
   . have:(i:Int) -1=(l.length:Int) -1 -((j+1:Nat):Int):=by omega
     simp[dt,aY,this]
   . simp[fL,e]
 rintro m vs M n7 aOv ⟨rfl,rfl⟩;simp-implicitDefEqProofs (disch:=omega) only[go_sem];refine a5 (fun af=>?_) (fun af=>?_);rotate_left
 . omega
 simp-implicitDefEqProofs (disch:=omega) only[go_sem,bd.row];refine gg f.cH.length (fun p vs M=>vs=[.ptr 0 0,.ptr 2 0,.ptr 3 0,.int .i64 l.length,.fn xI [.ptr 0 0,.ptr 1 0,.ptr 3 0],.int .i64 i,.int .i64 ((i+m:Nat):Int),.int .i64 f.cH.length,.int .i64 p]/\
  M=[.box f.row,.box [.slice (l.map a1.row) c],.box (d8 fun _=>none),.box (d8 (jl (fL f l j) i (kP f l i (i+m) (fL f l j) (j3 f l i (fL f l j) m) p)))]) ⟨by simp[dt,aY],by simp[bd.row,kP]⟩ ?_ ?_;rotate_left
 . rintro vs M ⟨rfl,rfl⟩
   simp-implicitDefEqProofs (disch:=omega) only[go_sem,dg,tl,bd.row];refine c6 n7 ⟨?_,?_⟩
   . have:((i+m:Nat):Int)+1=((i+(m+1):Nat):Int):=by omega
     simp only[dt,aY,this];rfl
   . simp only[j3]
 rintro p vs M ax aGw ⟨rfl,rfl⟩;obtain⟨q,aG⟩:∃q,f.cH[p]? =some q:=⟨f.cH[p],by simp⟩;have cr:i+m+1≠i:=by omega
 simp-implicitDefEqProofs (disch:=omega) only[go_sem,aGw,aBX,AB _ _ cr,bd.row];refine cp (fun ay=>?_) (fun ay=>?_);rotate_left
 . have e:fL f l j (i+m+1)=none:=by simpa[rD] using ay
   simp-implicitDefEqProofs (disch:=omega) only[go_sem,bd.row];refine c6 ax ⟨?_,?_⟩
   . simp only[dt,aY];rfl
   . simp only[kP,azT e,aL9]
 obtain⟨d,aw⟩:∃d,fL f l j (i+m+1)=some d:=Option.isSome_iff_exists.1 ay;simp-implicitDefEqProofs (disch:=omega) only[go_sem,bd.row];have lP:jl (fL f l j) i (kP f l i (i+m) (fL f l j) (j3 f l i (fL f l j) m) p) (i+m+1)=some d:=by rw[AB _ _ cr,aw]
 refine ew (aBJ f l c _ i (i+m) p q d aC bR ag hlen (by omega) (by omega) aG lP (aMr bR hlen (by omega) (by omega) aw)) ?_;rintro v M ⟨rfl,rfl⟩;simp-implicitDefEqProofs (disch:=omega) only[go_sem,bd.row];refine c6 ax ⟨?_,?_⟩
 . simp only[dt,aY];rfl
 . have e:i9 f l i (i+m) p (jl (fL f l j) i (kP f l i (i+m) (fL f l j) (j3 f l i (fL f l j) m) p))=i9 f l i (i+m) p (fL f l j):=Qq f l i (i+m) p (AB _ _ cr)
   simp only[kP,aMM,Om,e]
end Go.aQ.C
namespace Go.aQ.C
open Go.aQ
theorem WF(f:bd)(l:List a1):∀(m j i:Nat),l.length<=i+j->j+m<=l.length->fL f l (j+m) i=fL f l j i
 |0,_,_,_,_=>rfl
 |m+1,j,i,U,af=>by
  rw[show j+(m+1)=(j+m)+1 from rfl,fL,AB _ _ (by omega)];exact WF f l m j i U (by omega)
theorem KB{f:bd}{l:List a1}{i j:Nat}(h:l.length<=i+j)(ap:j<=l.length):i8 f l i=fL f l j i:=by
 have:=WF f l (l.length -j) j i h (by omega);rwa [Nat.add_sub_cancel' ap] at this
theorem PO(f:bd)(l:List a1):i8 f l l.length=some []:=by
 rw[KB (j:=0) (by omega) (by omega),fL,Om]
theorem Pn{f:bd}{l:List a1}{i k:Nat}{R lM:Nat->Option (List bK)}(a:Option (List bK))(h:R (k+1)=lM (k+1)):∀p,kP f l i k R a p=kP f l i k lM a p
 |0=>rfl
 |p+1=>by rw[kP,kP,Pn a h p,Qq f l i k p h]
theorem Pg{f:bd}{l:List a1}{i:Nat}{R lM:Nat->Option (List bK)}:∀j,(∀k,i<=k->k<i+j->R (k+1)=lM (k+1))->j3 f l i R j=j3 f l i lM j
 |0,_=>rfl
 |j+1,h=>by rw[j3,j3,Pg j (fun k U af=>h k U (by omega)),Pn _ (h (i+j) (by omega) (by omega))]
theorem PQ{f:bd}{l:List a1}{i:Nat}(hi:i<l.length):i8 f l i=j3 f l i (i8 f l) (l.length -i):=by
 obtain⟨j,ap⟩:∃j,l.length=i+(j+1):=⟨l.length -i -1,by omega⟩;have a6:l.length -(j+1)=i:=by omega
 have ba:l.length -i=j+1:=by omega
 rw[KB (j:=j+1) (by omega) (by omega),fL,a6,Om,ba];exact Pg _ fun k U af=>(KB (by omega) (by omega)).symm
theorem Pp{f:bd}{l:List a1}{i k:Nat}{R:Nat->Option (List bK)}{a:Option (List bK)}{d:List bK}:∀p,kP f l i k R a p=some d->a=some d∨∃q,i9 f l i k q R=some d
 |0,h=>.inl h
 |p+1,h=>by
  rcases Wu h with U|U
  . exact Pp p U
  . exact .inr ⟨p,U⟩
theorem Pj{f:bd}{l:List a1}{i:Nat}{R:Nat->Option (List bK)}{d:List bK}:∀j,j3 f l i R j=some d->∃k p,i<=k/\k<i+j/\i9 f l i k p R=some d
 |0,h=>by simp[j3] at h
 |j+1,h=>by
  rcases Pp _ h with U|⟨q,U⟩
  . obtain⟨k,p,a,b,c⟩:=Pj j U
    exact⟨k,p,a,by omega,c⟩
  . exact⟨i+j,q,by omega,by omega,U⟩
theorem aa7{f:bd}{l:List a1}{i:Nat}{hB:List bK}(hi:i<l.length)(h:i8 f l i=some hB):
 ∃(t:bK)(d:List bK)(k:Nat),hB=t::d/\t.first=i/\t.last=k/\i<=k/\k<l.length/\i8 f l (k+1)=some d:=by
 rw[PQ hi] at h;obtain⟨k,p,U,af,ay⟩:=Pj _ h;unfold i9 at ay;cases aG:f.cH[p]? with
 |none=>rw[aG] at ay;simp at ay
 |some q=>
  rw[aG] at ay;simp only at ay;split at ay
  . rw[dJ] at ay
    obtain⟨d,be,rfl⟩:=ay;exact⟨_,d,k,rfl,rfl,rfl,U,by omega,be⟩
  . simp at ay
theorem uM{f:bd}{l:List a1}{i:Nat}{d:List bK}(hi:i<=l.length)(h:i8 f l i=some d):Div f l i d:=JN f l l.length i d (cF _) hi h
def pE(a c:Option (List bK)):Prop:=∀e,c=some e->∃du,a=some du/\e7 du<=e7 e
theorem pE.refl(a:Option (List bK)):pE a a:=fun e h=>⟨e,h,Int.le_refl _⟩
theorem pE.trans{a b c:Option (List bK)}(U:pE a b)(af:pE b c):pE a c:=fun e he=>by
 obtain⟨x,ab,ay⟩:=af e he;obtain⟨y,aD,be⟩:=U x ab;exact⟨y,aD,by omega⟩
theorem PR(e:List bK)(s n:Int):uN (some e) s n=(decide (s<e7 e)||(decide (s=e7 e)&&decide (n<(e.length:Int)))):=rfl
theorem Wt(a c:Option (List bK)):pE (nO a c) a:=by
 intro e he;subst he;cases c with
 |none=>exact⟨e,rfl,Int.le_refl _⟩
 |some x=>
  simp only[nO];split
  . rename_i h
    refine⟨x,rfl,?_⟩;rw[PR] at h;simp only[Bool.or_eq_true,b_,decide_eq_true_eq] at h;omega
  . exact⟨e,rfl,Int.le_refl _⟩
theorem aL_(a c:Option (List bK)):pE (nO a c) c:=by
 intro e he;subst he;simp only[nO];split
 . exact⟨e,rfl,Int.le_refl _⟩
 . rename_i h
   cases a with
   |none=>simp[uN,rD] at h
   |some x=>
    refine⟨x,rfl,?_⟩;rw[PR] at h;simp only[Bool.or_eq_true,b_,decide_eq_true_eq] at h;omega
theorem Pr{f:bd}{l:List a1}{i k:Nat}{R:Nat->Option (List bK)}{a:Option (List bK)}:∀p,pE (kP f l i k R a p) a
 |0=>pE.refl _
 |p+1=>(Wt _ _).trans (Pr p)
theorem Pq{f:bd}{l:List a1}{i k:Nat}{R:Nat->Option (List bK)}{a:Option (List bK)}{q:Nat}:∀p,q<p->pE (kP f l i k R a p) (i9 f l i k q R)
 |p+1,h=>by
  rcases mG q p with U|U
  . exact(Wt _ _).trans (Pq p U)
  . have:q=p:=by omega
    subst this;exact aL_ _ _
theorem Pk{f:bd}{l:List a1}{i:Nat}{R:Nat->Option (List bK)}{m q:Nat}(aG:q<f.cH.length):∀j,m<j->pE (j3 f l i R j) (i9 f l i (i+m) q R)
 |j+1,h=>by
  rcases mG m j with U|U
  . exact(Pr _).trans (Pk aG j U)
  . have:m=j:=by omega
    subst this;exact Pq _ aG
theorem aJO{f:bd}{l:List a1}{t:bK}{i:Nat}(h:kA f l t i=0):
 ∃(p k:Nat)(q:dk),t=⟨p,i,k,hO f q l i⟩/\f.cH[p]? =some q/\i<=k/\k<l.length/\kT q (part l i k)=true:=by
 unfold kA at h;split at h
 . simp at h
 rename_i U;split at h
 . simp at h
 rename_i af;obtain⟨p,ax⟩:∃p:Nat,t.product=p:=⟨t.product.toNat,by omega⟩;obtain⟨k,ao⟩:∃k:Nat,t.last=k:=⟨t.last.toNat,by omega⟩;have hi:t.first=i:=by omega
 simp only[ax,ao,hi,lI] at h;split at h
 . simp at h
 rename_i q aG;split at h
 . simp at h
 rename_i ay;split at h
 . simp at h
 rename_i be;refine⟨p,k,q,?_,aG,by omega,by omega,by simpa using ay⟩;cases t;simp_all
theorem Vh{f:bd}{l:List a1}{i p k:Nat}{q:dk}(aG:f.cH[p]? =some q)(U:i<=k)(af:k<l.length)(ay:kT q (part l i k)=true):kA f l ⟨p,i,k,hO f q l i⟩ i=0:=by
 have ax:p<f.cH.length:=(bn.1 aG).1;rw[kA,if_neg (by simp only;omega),if_neg (by simp only;omega)];simp only[lI,aG];rw[if_neg (by simp[ay]),if_neg (by simp)]
theorem y1{f:bd}{l:List a1}{i:Nat}{t:bK}{d:List bK}(h:Div f l i (t::d)):
 ∃(p k:Nat)(q:dk),t=⟨p,i,k,hO f q l i⟩/\f.cH[p]? =some q/\i<=k/\k<l.length/\kT q (part l i k)=true/\Div f l (k+1) d:=by
 obtain⟨_,af,ay⟩:=h;obtain⟨p,k,q,rfl,a,b,c,e⟩:=aJO af;have:((k:Int)+1).toNat=k+1:=by omega
 simp only[this] at ay;exact⟨p,k,q,rfl,a,b,c,e,ay⟩
theorem KZ{f:bd}{l:List a1}{i p k:Nat}{q:dk}{d:List bK}(aG:f.cH[p]? =some q)(U:i<=k)(af:k<l.length)(ay:kT q (part l i k)=true)(h:Div f l (k+1) d):
 Div f l i (⟨p,i,k,hO f q l i⟩::d):=by
 refine⟨rfl,Vh aG U af ay,?_⟩;have:((k:Int)+1).toNat=k+1:=by omega
 simp only[this];exact h
theorem PP{f:bd}{l:List a1}:∀(d:List bK)(i:Nat),Div f l i d->∃hB,i8 f l i=some hB/\e7 hB<=e7 d
 |[],i,h=>by
  simp only[Div] at h;subst h;exact⟨[],PO f l,Int.le_refl _⟩
 |t::d,i,h=>by
  obtain⟨p,k,q,rfl,aG,U,af,ay,be⟩:=y1 h;obtain⟨hB,a6,ba⟩:=PP d _ be;have ar:i9 f l i k p (i8 f l)=some (⟨p,i,k,hO f q l i⟩::hB):=by
   simp only[i9,aG,ay,a6,if_true];rfl
  obtain⟨m,rfl⟩:∃m,k=i+m:=⟨k -i,by omega⟩;obtain⟨a,bU,b4⟩:=Pk (f:=f) (l:=l) (i:=i) (R:=i8 f l) (m:=m) (bn.1 aG).1 (l.length -i) (by omega) _ ar;refine⟨a,by rw[PQ (by omega),bU],?_⟩;rw[v6] at b4⊢;simp only at b4⊢;omega
theorem QV{f:bd}{l:List a1}:∀(d5:List bK)(i:Nat)(sum:Int),Div f l i d5->oB f l d5 i sum=(pL f (sum+e7 d5),0)
 |[],i,sum,h=>by
  simp only[Div] at h;rw[oB,if_neg (by omega)];simp[e7]
 |t::d5,i,sum,h=>by
  obtain⟨p,k,q,rfl,a,b,c,e,gG⟩:=y1 h;rw[oB,if_neg (by rw[Vh a b c e];simp)];have:=QV d5 (k+1) (sum+hO f q l i) gG;rw[v6,<-Int.add_assoc];exact this
def go(f:bd)(l:List a1):Int×List bK×Int:=
 if nS f l.length≠0 then(0,[],nS f l.length) else match i8 f l 0 with
 |none=>(0,[],34)
 |some d=>(pL f (e7 d),d,0)
theorem Rc{f:bd}{l:List a1}(h:(go f l).2.2=0):nS f l.length=0/\∃d,i8 f l 0=some d/\go f l=(pL f (e7 d),d,0):=by
 unfold go at h⊢;split at h
 . rename_i U;exact absurd h U
 . rename_i U
   simp only[ne_eq,Decidable.not_not] at U;rw[if_neg (by simp[U])];refine⟨U,?_⟩;split at h
   . simp at h
   . rename_i d aw
     exact⟨d,aw,by simp only⟩
theorem Rd{f:bd}{l:List a1}(h:nS f l.length=0):go f l=match i8 f l 0 with|none=>(0,[],34)|some d=>(pL f (e7 d),d,0):=by
 rw[go,if_neg (by simp[h])]
theorem aAM{f:bd}{l:List a1}{i:Nat}(h:Div f l i []):i=l.length:=h
def Bj(r:Int×List bK×Int)(c:c3):V:=.tuple [.int .i64 r.1,.slice (r.2.1.map bK.row) c,.int .i64 r.2.2]
def E8(r:Int×List bK×Int):c3:=if r.2.2=0 then .cv else .nil
theorem Re(f:bd)(l:List a1)(c:c3)(aC:f.wf)(ag:∀r∈l,r.wf):
 bQ av Dk [.agg f.row,.slice (l.map a1.row) c] (fun v=>v=Bj (go f l) (E8 (go f l))):=by
 have hm:maxLen=9223372036854775807:=by rfl
 refine bZ RF (by simp[Bu]) ?_;simp-implicitDefEqProofs (disch:=omega) only[go_sem,Bu,bd.row];first|refine b0 (Fr f l c aC) ?_|refine bV (Fr f l c aC) ?_
 simp-implicitDefEqProofs (disch:=omega) only[go_sem];refine a5 (fun U=>?_) (fun U=>?_);rotate_left
 . have e:go f l=(0,[],nS f l.length):=by rw[go,if_pos U]
   have ar:E8 (0,[],nS f l.length)=.nil:=if_neg U;simp-implicitDefEqProofs (disch:=omega) only[go_sem,e,Bj];rw[ar];rfl
 obtain⟨ar,hlen⟩:=Xa.1 U;have bR:=wK ar;simp-implicitDefEqProofs (disch:=omega) only[go_sem];first|refine b0 (Rg f l c aC bR ag hlen) ?_|refine bV (Rg f l c aC bR ag hlen) ?_
 simp-implicitDefEqProofs (disch:=omega) only[go_sem,Rx,tl,Ru,Rw,aBY];refine cp (fun af=>?_) (fun af=>?_);rotate_left
 . have e:go f l=(0,[],34):=by
    rw[Rd U];cases aj:i8 f l 0 with
    |none=>rfl
    |some d=>simp[rD,aj] at af
   simp-implicitDefEqProofs (disch:=omega) only[go_sem,e,Bj];rfl
 obtain⟨d,aw⟩:∃d,i8 f l 0=some d:=Option.isSome_iff_exists.1 af;have e:go f l=(pL f (e7 d),d,0):=by rw[Rd U,aw]
 have aOw:=wL bR d 0 (uM (by omega) aw);simp-implicitDefEqProofs (disch:=omega) only[go_sem];refine ek d (fun j vs M=>∃(i ver:Nat),i8 f l i=some (d.drop j)/\i<=l.length/\vs=[.slice (l.map a1.row) c,.ptr 0 0,.ptr 1 0,.aX 2 ver 0 j,.int .i64 i]/\
  M=[.box f.row,.box (d8 (i8 f l)),.arr 4 ((d.take j).map bK.row) ver 0]) ⟨0,0,by simpa using aw,by omega,rfl,by simp[bd.row]⟩ ?_ ?_;rotate_left
 . rintro vs M ⟨i,ver,aj,hi,rfl,rfl⟩
   rw[List.drop_length] at aj;have hi':i=l.length:=aAM (uM hi aj);subst hi';simp-implicitDefEqProofs (disch:=omega) only[go_sem,dg,bd.row,aBZ];first|refine b0 (Fp f _) ?_|refine bV (Fp f _) ?_
   simp-implicitDefEqProofs (disch:=omega) only[go_sem,g0,aw];rw[e];rfl
 rintro j t vs M aT ap mn ⟨i,ver,aj,hi,rfl,rfl⟩;rw[A7 aT] at aj;obtain⟨_,_,_,_,_,_,ey,_⟩:=y1 (uM hi aj);have kZ:i<l.length:=by omega
 obtain⟨gD,hB,k,he,Tr,n6,iW,lT,He⟩:=aa7 kZ aj;obtain⟨rfl,rfl⟩:=List.cons.inj he;have lP:qr (i8 f l i)=t:=by rw[aj];rfl
 simp-implicitDefEqProofs (disch:=omega) only[go_sem,bd.row];refine a5 (fun ay=>?_) (fun ay=>?_);rotate_left
 . omega
 have aF7:(d.take j).length=j:=by simp;omega
 simp-implicitDefEqProofs (disch:=omega) only[go_sem,bd.row,aB8,aB2,tl,lP,n6,bK.row,aF7];refine c6 ap ⟨k+1,ver+1,He,by omega,?_,?_⟩
 . simp only[dt,aY];rfl
 . rw[hR,aT,List.map_append]
   simp only[Option.toList_some,hQ,lb,bK.row,n6]
theorem aM5{f:bd}{l:List a1}{d:List bK}(h:nS f l.length=0)(aw:i8 f l 0=some d):wd f l d=(pL f (e7 d),0):=by
 have:=QV d 0 0 (uM (by omega) aw);rw[wd,if_neg (by simp[h])];rw[Int.zero_add] at this;exact this
def O9(l:List a1):Prop:=∀i a b,l[i]? =some a->l[i+1]? =some b->a.cB<=b.cB
theorem O9.le{l:List a1}(h:O9 l):∀(m i:Nat)(a b:a1),l[i]? =some a->l[i+m]? =some b->a.cB<=b.cB
 |0,i,a,b,bk,aj=>by rw[iJ,bk] at aj;simp at aj;subst aj;exact Int.le_refl _
 |m+1,i,a,b,bk,aj=>by
  have bw:i+m+1<l.length:=(bn.1 aj).1;have ab:l[i+m]? =some l[i+m]:=by simp
  have U:=h.le m i a _ bk ab;have af:=h (i+m) _ b ab aj;omega
theorem Vr{l:List a1}{i k m:Nat}(h:k<m):part (l.take m) i k=part l i k:=by
 unfold part;rw[List.drop_take,List.take_take,Nat.min_eq_left (by omega)]
theorem WI{f:bd}{q:dk}{l:List a1}{i m:Nat}(h:i<m):hO f q (l.take m) i=hO f q l i:=by
 unfold hO;rw[hs h,hs (by omega)]
theorem QT{f:bd}{l:List a1}{m:Nat}{e:List bK}(he:Div f l m e)(hm:m<=l.length):∀(d:List bK)(i:Nat),Div f (l.take m) i d->∃hB,Div f l i hB/\e7 hB=e7 d+e7 e
 |[],i,h=>by
  simp only[Div,iw] at h;have:i=m:=by omega
  subst this;exact⟨e,he,by simp[e7]⟩
 |t::d,i,h=>by
  obtain⟨p,k,q,rfl,aG,U,af,ay,be⟩:=y1 h;rw[iw] at af;obtain⟨hB,a6,ba⟩:=QT he hm d (k+1) be;rw[Vr (by omega)] at ay;refine⟨_,KZ aG U (by omega) ay a6,?_⟩;rw[v6,v6,ba,WI (by omega)];simp only;omega
theorem sG{l:List a1}{j:Nat}:part l j j=(l.drop j).take 1:=by
 have:j+1 -j=1:=by omega
 unfold part;rw[this]
end Go.aQ.C
namespace Go.aQ.C
open Go.aQ
def tY(l:ca):Int:=if l.cR=true∨l.cB<0∨l.c_<l.cB∨14400<l.c_ -l.cB then 0 else l.c_ -l.cB
def mD:List ca->Int
 |[]=>0
 |l::ls=>tY l+mD ls
theorem aNi(a:List ca)(l:ca):mD (a++[l])=mD a+tY l:=by
 induction a with
 |nil=>simp[mD]
 |cons x a bq=>simp only[List.cons_append,mD,bq];omega
theorem aH8(l:ca):0<=tY l/\tY l<=14400:=by
 unfold tY;split<;>omega
theorem aNh(l:List ca):0<=mD l/\mD l<=14400*l.length:=by
 induction l with
 |nil=>simp[mD]
 |cons x l bq=>
  have:=aH8 x;simp only[mD,dz];omega
def ca.wf(l:ca):Prop:=el l.cB/\el l.c_
theorem aae(aZ:List ca)(c:c3)(hw:∀l∈aZ,l.wf)(ag:aZ.length<=1000):bQ av H0 [.agg [.slice (aZ.map ca.row) c]] (fun v=>v=.int .i64 (mD aZ)):=by
 refine bZ R_ (by simp[BX]) ?_;simp-implicitDefEqProofs (disch:=omega) only[go_sem,BX];refine ek aZ (fun i vs M=>vs=[.int .i64 (mD (aZ.take i)),.slice (aZ.map ca.row) c,.int .i64 aZ.length,.int .i64 i]/\M=[.box [.slice (aZ.map ca.row) c]]) ⟨rfl,rfl⟩ ?_ ?_;rotate_left
 . rintro vs M ⟨rfl,rfl⟩
   rw[g0];simp-implicitDefEqProofs (disch:=omega) only[go_sem,dg]
 rintro i l vs M p1 hi aw ⟨rfl,rfl⟩;obtain⟨⟨d1,d2⟩,⟨bU,b4⟩⟩:=hw l (dO p1);have aj:=aNh (aZ.take i);have bw:(aZ.take i).length<=1000:=by rw[iw];omega
 have aT:mD (aZ.take (i+1))=mD (aZ.take i)+tY l:=by rw[hR,p1];exact aNi _ _
 have a4:∀(p:Prop),p->(p->tY l=0)->mD (aZ.take (i+1))=mD (aZ.take i):=fun p ax h=>by rw[aT,h ax];omega
 simp-implicitDefEqProofs (disch:=omega) only[go_sem,aw,p1,ca.row];refine cp (fun aW=>?_) (fun aW=>?_)
 . simp-implicitDefEqProofs (disch:=omega) only[go_sem]
   exact dC hi rfl ⟨by simp[dt,aY,a4 _ aW fun h=>if_pos (.inl h)],rfl⟩
 simp-implicitDefEqProofs (disch:=omega) only[go_sem];refine a5 (fun a9=>?_) (fun a9=>?_)
 . simp-implicitDefEqProofs (disch:=omega) only[go_sem]
   exact dC hi rfl ⟨by simp[dt,aY,a4 _ a9 fun h=>if_pos (.inr (.inl h))],rfl⟩
 simp-implicitDefEqProofs (disch:=omega) only[go_sem];refine a5 (fun bN=>?_) (fun bN=>?_)
 . simp-implicitDefEqProofs (disch:=omega) only[go_sem]
   exact dC hi rfl ⟨by simp[dt,aY,a4 _ bN fun h=>if_pos (.inr (.inr (.inl h)))],rfl⟩
 simp-implicitDefEqProofs (disch:=omega) only[go_sem];refine a5 (fun c5=>?_) (fun c5=>?_)
 . simp-implicitDefEqProofs (disch:=omega) only[go_sem]
   exact dC hi rfl ⟨by simp[dt,aY,a4 _ c5 fun h=>if_pos (.inr (.inr (.inr h)))],rfl⟩
 have TJ:tY l=l.c_ -l.cB:=by unfold tY;rw[if_neg];rw[aW];simp;omega
 simp-implicitDefEqProofs (disch:=omega) only[go_sem];exact dC hi rfl ⟨by simp[dt,aY,aT,TJ],rfl⟩
structure nX where
 cB:Int
 c_:Int
 b1:Int
 tj:Int
 walk:Int
def nX.row(c:nX):List V:=[.int .i64 c.cB,.int .i64 c.c_,.int .i64 c.b1,.int .i64 c.tj,.int .i64 c.walk]
def wN(q:Query)(aZ:List ca):Int×Int:=match aZ[0]?,aZ[aZ.length -1]? with
 |some a,some b=>(a.cB,b.c_)
 |_,_=>(q.time,q.time)
def lp(n:Net)(q:Query)(aZ:List ca):nX×List bK×Int:=
 if(gL n aZ).1≠0 then(⟨0,0,0,0,0⟩,[],(gL n aZ).1)
 else if(go n.cY (gL n aZ).2).2.2≠0 then(⟨0,0,0,0,0⟩,[],(go n.cY (gL n aZ).2).2.2)
 else(⟨(wN q aZ).1,(wN q aZ).2,(gL n aZ).2.length,(go n.cY (gL n aZ).2).1,mD aZ⟩,(go n.cY (gL n aZ).2).2.1,0)
def A5(r:nX×List bK×Int)(d:c3):V:=.tuple [.agg r.1.row,.slice (r.2.1.map bK.row) d,.int .i64 r.2.2]
theorem D1(a b:Int):el (qk .i64 a b):=OD _
theorem aK4(n:Net){l:ca}(h:l.wf):(Ar n l).wf:=⟨h.1,h.2,OD _,OD _⟩
theorem aK6(n:Net){out:List a1}{l:ca}(h:l.wf)(az:∀r∈out,r.wf):∀r∈kG n out l,r.wf:=by
 unfold kG;split
 . split
   . rename_i fF a4
     intro r al;rcases List.mem_or_eq_of_mem_set al with U|rfl
     . exact az r U
     . exact⟨(az fF (dO a4)).1,h.2,D1 _ _,D1 _ _⟩
   . exact az
 . intro r al
   rcases g_.1 al with U|U
   . exact az r U
   . rw[ht.1 U];exact aK4 n h
theorem VW(n:Net):∀(aZ:List ca)(rG:Bool)(out:List a1),(∀l∈aZ,l.wf)->(∀r∈out,r.wf)->∀r∈(px n rG aZ out).2,r.wf
 |[],rG,out,_,az=>az
 |l::aZ,rG,out,ag,az=>by
  unfold px;split
  . intro r al;cases al
  split
  . intro r al;cases al
  refine VW n aZ _ _ (fun x ab=>ag x (oG _ ab)) ?_;split
  . exact aK6 n (ag l (List.mem_cons_self ..)) az
  . exact az
theorem VT(n:Net){aZ:List ca}(h:∀l∈aZ,l.wf):∀r∈(gL n aZ).2,r.wf:=VW n aZ false [] h fun r al=>by cases al
def E7(r:nX×List bK×Int):c3:=if r.2.2=0 then .cv else .nil
theorem XT(n:Net)(q:Query)(aZ:List ca)(c:c3)(aK:n.wf)(ok:g2 n)(ag:aZ.length<=1000)(hw:∀l∈aZ,l.wf):
 bQ av HY [.agg n.row,.agg q.row,.agg [.slice (aZ.map ca.row) c]] (fun v=>v=A5 (lp n q aZ) (E7 (lp n q aZ))):=by
 have al:=O6 n aZ c aK ok ag;have ao:=aae aZ c hw ag;have ax:=fun d=>Re n.cY (gL n aZ).2 d aK.cY (VT n hw);simp only[Net.row,bd.row] at al ax;refine bZ R6 (by simp[BT]) ?_;simp-implicitDefEqProofs (disch:=omega) only[go_sem,BT,Net.row,Query.row];first|refine b0 (al) ?_|refine bV (al) ?_
 simp-implicitDefEqProofs (disch:=omega) only[go_sem];refine a5 (fun U=>?_) (fun U=>?_);rotate_left
 . have e:lp n q aZ=(⟨0,0,0,0,0⟩,[],(gL n aZ).1):=by rw[lp,if_pos U]
   have ar:E7 (⟨0,0,0,0,0⟩,[],(gL n aZ).1)=.nil:=if_neg U;simp-implicitDefEqProofs (disch:=omega) only[go_sem,e,A5,nX.row];rw[ar];rfl
 simp-implicitDefEqProofs (disch:=omega) only[go_sem];first|refine b0 (ax _) ?_|refine bV (ax _) ?_
 simp-implicitDefEqProofs (disch:=omega) only[go_sem,Bj];refine a5 (fun af=>?_) (fun af=>?_);rotate_left
 . have e:lp n q aZ=(⟨0,0,0,0,0⟩,[],(go n.cY (gL n aZ).2).2.2):=by rw[lp,if_neg (by simp[U]),if_pos af]
   have ar:E7 (⟨0,0,0,0,0⟩,[],(go n.cY (gL n aZ).2).2.2)=.nil:=if_neg af;simp-implicitDefEqProofs (disch:=omega) only[go_sem,e,A5,nX.row];rw[ar];rfl
 simp-implicitDefEqProofs (disch:=omega) only[go_sem];first|refine b0 (ao) ?_|refine bV (ao) ?_
 simp-implicitDefEqProofs (disch:=omega) only[go_sem];have aq:lp n q aZ=(⟨(wN q aZ).1,(wN q aZ).2,(gL n aZ).2.length,(go n.cY (gL n aZ).2).1,mD aZ⟩,(go n.cY (gL n aZ).2).2.1,0):=by
  rw[lp,if_neg (by simp[U]),if_neg (by simp[af])]
 have iT:E8 (go n.cY (gL n aZ).2)=.cv:=if_pos af;refine⟨⟨bQ.call ao rfl fun x ab _=>⟨ab,rfl⟩,fun h=>by cases h⟩,?_⟩;refine a5 (fun ay=>?_) (fun ay=>?_)
 . obtain⟨a,b,bk,aj⟩:=Rp (l:=aZ) (by omega)
   have he:wN q aZ=(a.cB,b.c_):=by simp only[wN,bk,aj]
   simp-implicitDefEqProofs (disch:=omega) only[go_sem,bk,aj,ca.row];rw[aq,he,iT];rfl
 . have he:wN q aZ=(q.time,q.time):=by
    have:aZ=[]:=by cases aZ with
     |nil=>rfl
     |cons _ _=>simp at ay
    rw[this];rfl
   simp-implicitDefEqProofs (disch:=omega) only[go_sem];rw[aq,he,iT];rfl
end Go.aQ.C
namespace Go.aQ.C
open Go.aQ
def im(f:bd):List V:=[.slice (f.cH.map dk.row) .cv,.int .i64 f.lq,.int .i64 f.within,.int .i64 f.mw]
def ym(f:bd)(s:Int):Int×Bool:=if s<0 then(0,false) else if f.mw=0∨s<f.mw then(s,true) else(f.mw,true)
def gJ(f:bd)(l:List a1):Int:=match i8 f l 0 with|some d=>e7 d|none=>-1
def gX(f:bd)(l:List a1)(i:Nat):Int:=if i<=l.length then gJ f (l.take i) else 0
theorem aJa(f:bd):gJ f []=0:=by
 have:=PO f [];simp only[gZ] at this;simp[gJ,this,e7]
theorem aMi(f:bd)(i:Nat):gX f [] i=0:=by
 unfold gX;split
 . rw[List.take_nil,aJa]
 . rfl
theorem U0{f:bd}{l:List a1}(bR:f.hS){d:List bK}(h:Div f l 0 d):0<=gJ f l/\gJ f l<=e7 d:=by
 obtain⟨hB,U,af⟩:=PP d 0 h;have:=wL bR _ _ (uM (by omega) U);simp only[gJ,U];exact⟨this.1,af⟩
theorem Nj{f:bd}{l:List a1}(h:0<=gJ f l):∃d,Div f l 0 d/\e7 d=gJ f l:=by
 unfold gJ at h⊢;cases aj:i8 f l 0 with
 |none=>rw[aj] at h;simp at h
 |some d=>exact⟨d,uM (by omega) aj,rfl⟩
theorem aI_{f:bd}{l:List a1}(bR:f.hS)(h:gJ f l<0):gJ f l=-1:=by
 unfold gJ at h⊢;cases aj:i8 f l 0 with
 |none=>rfl
 |some d=>
  rw[aj] at h;have:=wL bR _ _ (uM (by omega) aj);simp only at h;omega
theorem QU{f:bd}{l:List a1}:∀(d:List bK)(i:Nat),Div f l i d->i<l.length->
 ∃(h7:List bK)(p j:Nat)(q:dk),d=h7++[⟨p,j,(l.length -1:Nat),hO f q l j⟩]/\f.cH[p]? =some q/\i<=j/\j<l.length/\kT q (part l j (l.length -1))=true/\Div f (l.take j) i h7
 |[],i,h,hi=>by simp only[Div] at h;omega
 |t::d,i,h,hi=>by
  obtain⟨p,k,q,rfl,aG,U,af,ay,be⟩:=y1 h;rcases mG (k+1) l.length with bv|bv
  . obtain⟨h7,p',j,jU,rfl,a6,ba,e3,lO,mP⟩:=QU d (k+1) be bv
    refine⟨⟨p,i,k,hO f q l i⟩::h7,p',j,jU,rfl,a6,by omega,e3,lO,?_⟩;have zH:(l.take j).length=j:=by simp;omega
    have:=KZ (f:=f) (l:=l.take j) (i:=i) (k:=k) (p:=p) (q:=q) (d:=h7) aG U (by omega) (by rw[Vr (by omega)];exact ay) mP;rw[WI (by omega)] at this;exact this
  . have ao:k=l.length -1:=by omega
    subst ao;have aw:d=[]:=by
     cases d with
     |nil=>rfl
     |cons t d=>
      obtain⟨_,_,_,_,_,_,b7,_⟩:=y1 be;omega
    subst aw;exact⟨[],p,i,q,rfl,aG,cF _,hi,ay,by simp only[Div,iw];omega⟩
theorem aMz(a b:List bK):e7 (a++b)=e7 a+e7 b:=by simp[e7,List.sum_append]
theorem WP(t:bK):e7 [t]=t.ga:=by simp[e7]
theorem Xi{f:bd}{l:List a1}(bR:f.hS){i p:Nat}{q:dk}(hi:i<l.length)(aG:f.cH[p]? =some q)(a4:0<=gJ f (l.take i))(ar:kT q (part l i (l.length -1))=true):
 0<=gJ f l/\gJ f l<=gJ f (l.take i)+hO f q l i:=by
 obtain⟨d,aw,aT⟩:=Nj a4;have he:Div f l i [⟨p,i,(l.length -1:Nat),hO f q l i⟩]:=KZ aG (by omega) (by omega) ar (by simp only[Div];omega);obtain⟨hB,U,af⟩:=QT he (by omega) d 0 aw;have:=U0 bR U;rw[af,aT,WP] at this;exact this
theorem aNj{f:bd}{l:List a1}(bR:f.hS)(ag:0<l.length)(h:0<=gJ f l):
 ∃(i p:Nat)(q:dk),i<l.length/\f.cH[p]? =some q/\0<=gJ f (l.take i)/\kT q (part l i (l.length -1))=true/\gJ f (l.take i)+hO f q l i<=gJ f l:=by
 obtain⟨d,aw,aT⟩:=Nj h;obtain⟨h7,p,j,q,rfl,U,af,ay,be,bv⟩:=QU d 0 aw ag;have:=U0 bR bv;rw[aMz,WP] at aT;simp only at aT;exact⟨j,p,q,ay,U,this.1,be,by omega⟩
def Way(f:bd)(l:List a1)(i p:Nat)(s:Int):Prop:=∃q,i<l.length/\f.cH[p]? =some q/\0<=gJ f (l.take i)/\kT q (part l i (l.length -1))=true/\s=gJ f (l.take i)+hO f q l i
structure Seen(f:bd)(l:List a1)(V:Nat->Nat->Prop)(b:Int):Prop where
 made:b=-1∨0<=b/\∃i p,Way f l i p b
 least:∀i p s,V i p->Way f l i p s->0<=b/\b<=s
theorem Seen.done{f:bd}{l:List a1}{V:Nat->Nat->Prop}{b:Int}(bR:f.hS)(ag:0<l.length)(h:Seen f l V b)(lQ:∀i p,i<l.length->p<f.cH.length->V i p):b=gJ f l:=by
 rcases Int.lt_or_le (gJ f l) 0 with a4|a4
 . rcases h.made with U|⟨U,i,p,q,af,ay,be,bv,_⟩
   . rw[U,aI_ bR a4]
   . have:=Xi bR af ay be bv;omega
 . obtain⟨i,p,q,U,af,ay,be,bv⟩:=aNj bR ag a4
   obtain⟨b7,dQ⟩:=h.least i p _ (lQ i p U (bn.1 af).1) ⟨q,U,af,ay,be,rfl⟩;rcases h.made with ch|⟨_,eI,p',jU,aW,a9,bN,c5,er⟩
   . omega
   . have:=Xi bR aW a9 bN c5;omega
theorem Seen.skip{f:bd}{l:List a1}{V uG:Nat->Nat->Prop}{b:Int}{i p:Nat}(h:Seen f l V b)(aK:∀s,¬Way f l i p s)(lQ:∀eI p',uG eI p'->V eI p'∨(eI=i/\p'=p)):Seen f l uG b:=
 ⟨h.made,fun eI p' s aq hw=>by
   rcases lQ eI p' aq with U|⟨rfl,rfl⟩
   . exact h.least eI p' s U hw
   . exact absurd hw (aK s)⟩
theorem Way.same{f:bd}{l:List a1}{i p:Nat}{s t:Int}(h:Way f l i p s)(k:Way f l i p t):s=t:=by
 obtain⟨q,_,af,_,_,bv⟩:=h;obtain⟨jU,_,b8,_,_,fs⟩:=k;rw[af] at b8;simp only[aV] at b8;subst b8;rw[bv,fs]
theorem Seen.take{f:bd}{l:List a1}{V uG:Nat->Nat->Prop}{b s:Int}{i p:Nat}(h:Seen f l V b)(hw:Way f l i p s)(a4:0<=s)(aj:b<0∨s<b)(lQ:∀eI p',uG eI p'->V eI p'∨(eI=i/\p'=p)):Seen f l uG s:=
 ⟨.inr ⟨a4,i,p,hw⟩,fun eI p' aM aq gH=>by
   rcases lQ eI p' aq with U|⟨rfl,rfl⟩
   . have:=h.least eI p' aM U gH;omega
   . have:=hw.same gH;omega⟩
theorem Seen.fJ{f:bd}{l:List a1}{V uG:Nat->Nat->Prop}{b s:Int}{i p:Nat}(h:Seen f l V b)(hw:Way f l i p s)(aj:¬b<0)(ak:¬s<b)(lQ:∀eI p',uG eI p'->V eI p'∨(eI=i/\p'=p)):Seen f l uG b:=
 ⟨h.made,fun eI p' aM aq gH=>by
   rcases lQ eI p' aq with U|⟨rfl,rfl⟩
   . exact h.least eI p' aM U gH
   . have:=hw.same gH;omega⟩
theorem Seen.start{f:bd}{l:List a1}:Seen f l (fun _ _=>False) (-1):=⟨.inl rfl,fun _ _ _ h=>h.elim⟩
def jD(S:Nat->Int):List V:=[.int .i64 (S 0),.int .i64 (S 1),.int .i64 (S 2),.int .i64 (S 3),.int .i64 (S 4),.int .i64 (S 5),.int .i64 (S 6),.int .i64 (S 7),.int .i64 (S 8)]
theorem JJ(S:Nat->Int):(jD S).length=9:=rfl
theorem Wy(S:Nat->Int){i:Nat}(h:i<9):(jD S)[i]? =some (.int .i64 (S i)):=sC (p:=fun i=>(jD S)[i]? =some (.int .i64 (S i))) rfl rfl rfl rfl rfl rfl rfl rfl rfl h
theorem N9(S:Nat->Int){i:Nat}(h:i<9):((jD S).drop (i*1))[0]? =some (.int .i64 (S i)):=by
 rw[kL,kN,iJ,Wy S h]
theorem aMf(S:Nat->Int)(x:Int){i:Nat}(h:i<9):(jD S).set i (.int .i64 x)=jD (fun j=>if j=i then x else S j):=by
 refine sC (p:=fun i=>(jD S).set i (.int .i64 x)=jD (fun j=>if j=i then x else S j)) ?_ ?_ ?_ ?_ ?_ ?_ ?_ ?_ ?_ h<;>simp[jD]
theorem aMg(k:Nat)(S:Nat->Int):cS k (jD S)=true:=rfl
theorem aMe(a b c d e f g a4 U af ay be bv b7 dQ ch:V)(S:Nat->Int):gU [a,b,c,d,e,f,g,a4,U,af,ay,be,bv,b7,dQ,ch] 7 (jD S)=a::b::c::d::e::f::g::jD S:=rfl
def se(f:bd)(aKd:V)(r:a1)(n:Int)(S:Nat->Int):List V:=
 .cN (im f)::aKd::.int .i64 r.cB::.int .i64 r.c_::.int .i64 r.gb::.int .i64 r.eP::.int .i64 n::jD S
def f7(f:bd):List a1->V
 |[]=>.cN (se f .dm ⟨0,0,0,0⟩ 0 (gX f []))
 |r::rl=>.cN (se f (f7 f rl) r ((rl.length+1:Nat):Int) (gX f (r::rl).reverse))
def no(f:bd)(S:Nat->Int):List a1->List V
 |[]=>se f .dm ⟨0,0,0,0⟩ 0 S
 |r::rl=>se f (f7 f rl) r ((rl.length+1:Nat):Int) S
theorem uZ(f:bd)(rl:List a1):f7 f rl=.cN (no f (gX f rl.reverse) rl):=by cases rl<;>rfl
theorem GO(f:bd)(rl:List a1)(k:Nat):(f7 f rl).under k=true:=by cases rl<;>rfl
def M5(rl:List a1):a1:=rl.headD ⟨0,0,0,0⟩
def VC(f:bd)(rl:List a1):V:=match rl with|[]=>.dm|_::rl=>f7 f rl
theorem ze(f:bd)(S:Nat->Int)(rl:List a1):no f S rl=se f (VC f rl) (M5 rl) (rl.length:Nat) S:=by cases rl<;>rfl
def t8:V->Nat->V
 |.cN cells,k=>.gC (cells.drop k)
 |.ptr id o,k=>.ptr id (o+k)
 |v,_=>v
structure pC(M:Mem)(v:V)(cells:List V):Prop where
 nil:m4 v=some v
 k3:∀k,k<=cells.length->kz k v=some (t8 v k)
 DQ:∀k(n:Nat) bX L,k<=cells.length->hn n bX (t8 v k) (M++L)=iC n bX (cells.drop k) 0
 aO:∀(k len:Nat)(i:Int),0<=i->i<(len:Int)->k+i.toNat<=cells.length->pm len 1 (t8 v k) (.int .i64 i)=some (t8 v (k+i.toNat))
theorem pC.cN(M:Mem)(cells:List V):pC M (.cN cells) cells:=by
 refine⟨rfl,fun k h=>?_,fun k n bX L _=>rfl,fun k len i a4 U af=>?_⟩
 . simp only[kz,t8,decide_eq_true h,cond_true]
 . have aw:decide (i.toNat<=(cells.drop k).length)=true:=decide_eq_true (by rw[List.length_drop];omega)
   simp only[t8,pm,decide_eq_true a4,decide_eq_true U,eR,cond_true,kz,aw,List.drop_drop,kN]
theorem pC.ptr{M:Mem}{id:Nat}{cells:List V}(h:M[id]? =some (.box cells)):pC M (.ptr id 0) cells:=by
 refine⟨rfl,fun k _=>by simp[kz,t8],fun k n bX L ao=>?_,fun k len i a4 U af=>?_⟩
 . simp only[t8,ev,hn,b6 h L]
   cases bX with
   |false=>simp[iC]
   |true=>
    simp only[iC,List.length_drop,l9,ev];by_cases aj:k+n<=cells.length
    . rw[decide_eq_true aj,decide_eq_true (by omega)]
    . rw[decide_eq_false aj,decide_eq_false (by omega)]
 . simp only[t8,pm,decide_eq_true a4,decide_eq_true U,eR,cond_true,kz,ev,kN]
end Go.aQ.C
namespace Go.aQ.C
open Go.aQ
theorem w4(f:bd)(S:Nat->Int)(rl:List a1):(no f S rl).length=16:=by rw[ze];rfl
theorem aI0(zero:List V)(sz bytes n:Nat)(M:Mem)(aK:n<=9)(aj:bytes<=32):m1 zero sz bytes (.int .i64 (n:Int)) (.int .i64 (n:Int)) M=some (.aX M.length 0 0 n,M++[.arr sz (fV n zero) 0 0]):=by
 have U:(n:Int)*(bytes:Int)<=9*32:=Int.mul_le_mul (by omega) (by omega) (by omega) (by omega);have bU:decide (0<=(n:Int))=true:=decide_eq_true (by omega);have b4:decide ((n:Int)<=(n:Int))=true:=decide_eq_true (by omega);have cG:decide ((n:Int)*(bytes:Int)<=2^48)=true:=decide_eq_true (by omega);have dl:decide ((n:Int)<2^62)=true:=decide_eq_true (by omega);simp only[m1,bU,b4,cG,dl,lI,eR,cond_true]
theorem aAA{a b:Nat}(h:a<b):decide (a<b)=true:=decide_eq_true h
def J2:List V:=[.int .i64 0,.int .i64 0,.int .i64 0,.int .i64 0]
def pq(rl:List a1)(j:Nat):List (List V):=fV (rl.length -j) J2++((rl.take j).reverse).map a1.row
theorem aIL(rl:List a1){j:Nat}(h:j<=rl.length):(pq rl j).length=rl.length:=by simp[pq];omega
theorem aIM{rl:List a1}{j:Nat}{r:a1}(h:rl[j]? =some r):(pq rl j).set (rl.length -1 -j) r.row=pq rl (j+1):=by
 have ap:j<rl.length:=(bn.1 h).1;have e:rl.length -j=(rl.length -1 -j)+1:=by omega
 have ba:rl.length -(j+1)=rl.length -1 -j:=by omega
 rw[pq,pq,hR,h,ba,e,List.replicate_succ',eB];simp
theorem aIK{rl:List a1}{j:Nat}(h:j<rl.length):(pq rl j)[rl.length -1 -j]? =some J2:=by
 rw[pq,gh (by simp;omega),List.getElem?_replicate];rw[if_pos (by omega)]
theorem aIJ(rl:List a1):pq rl rl.length=rl.reverse.map a1.row:=by simp[pq]
theorem aIN(rl:List a1):fV rl.length [V.int .i64 0,.int .i64 0,.int .i64 0,.int .i64 0]=pq rl 0:=by simp[pq,J2]
theorem Pb{M:Mem}{v:V}{f:bd}{S:Nat->Int}{rl:List a1}(h:pC M v (no f S rl))(aq:v.under M.length=true)(e1:cL M.length M=true)(hlen:rl.length<=8):
 cj av Dp [v] M (fun x ah=>x=.slice (rl.reverse.map a1.row) .cv/\ah=M):=by
 have dh:∀(K:Mem)(B:a2),(K++[B])[K.length]? =some B:=fun K B=>by simp
 have jL:∀(K:Mem)(B X:a2),(K++[B]).set K.length X=K++[X]:=fun K B X=>by simp
 have CE:∀(K:Mem)(B:a2),(K++[B]).take K.length=K:=fun K B=>by simp
 have kX:∀(K:Mem)(B:a2),decide (K.length<=(K++[B]).length)=true:=fun K B=>by simp
 have aD2:∀(K:Mem),decide (K.length<K.length)=false:=fun K=>by simp
 have b7:=h.k3 6 (by rw[w4];omega);have Lz:=h.DQ 6 1 false [] (by rw[w4];omega);have SY:=fun B=>h.DQ 6 1 false [B] (by rw[w4];omega);have y4:iC 1 false ((no f S rl).drop 6) 0=some (.int .i64 (rl.length:Nat)):=by rw[ze];rfl
 rw[y4] at Lz SY;rw[fU] at Lz;refine bZ RQ (by simp[BF]) ?_;simp-implicitDefEqProofs (disch:=omega) only[go_sem,BF,h.nil,b7,Lz,SY,aI0,aIN];refine gg rl.length (fun j vs N=>∃Ff S,(rl.drop j=[]∨pC M Ff (no f S (rl.drop j)))/\vs=[Ff,.aX M.length 0 0 rl.length,.int .i64 ((rl.length:Int) -1 -j)]/\N=M++[.arr 4 (pq rl j) 0 0]) ⟨v,S,.inr h,by simp[dt,aY],rfl⟩ ?_ ?_;rotate_left
 . rintro vs N ⟨Ff,T,ar,rfl,rfl⟩
   have U:((rl.length:Int) -1 -rl.length)=-1:=by omega
   simp-implicitDefEqProofs (disch:=omega) only[go_sem,U];refine a5 (fun af=>?_) (fun af=>?_)
   . omega
   have aT:List.take rl.length (rl.reverse.map a1.row)=rl.reverse.map a1.row:=g1 (by simp);simp-implicitDefEqProofs (disch:=omega) only[go_sem,dh,CE,e1,aD2,aIJ,List.length_reverse,aT]
 rintro j vs N ap mn ⟨Ff,T,ar,rfl,rfl⟩;obtain⟨x,ab⟩:∃x,rl[j]? =some x:=⟨rl[j],by simp⟩;rw[uT ab] at ar;replace ar:=ar.resolve_left (by simp);have b8:=ar.k3 2 (by rw[w4];omega);have bH:=ar.k3 1 (by rw[w4];omega);have MU:=fun B=>ar.DQ 2 4 true [B] (by rw[w4];omega);have I4:=fun B=>ar.DQ 1 1 false [B] (by rw[w4];omega);have f2:iC 4 true ((no f T (x::rl.drop (j+1))).drop 2) 0=some (.agg x.row):=rfl;have f1:iC 1 false ((no f T (x::rl.drop (j+1))).drop 1) 0=some (f7 f (rl.drop (j+1))):=rfl;rw[f2] at MU;rw[f1] at I4;obtain⟨i,hi⟩:∃i:Nat,(rl.length:Int) -1 -j=i:=⟨rl.length -1 -j,by omega⟩;have hi':i=rl.length -1 -j:=by omega
 have aB:=aIK (rl:=rl) ap;rw[<-hi'] at aB;have eV:=aIM ab;rw[<-hi'] at eV;simp only[a1.row] at eV MU;simp-implicitDefEqProofs (disch:=omega) only[go_sem,hi];refine a5 (fun af=>?_) (fun af=>?_);rotate_left
 . omega
 simp-implicitDefEqProofs (disch:=omega) only[go_sem,ar.nil,bH,b8,I4,MU,dh,jL,aIL rl (Nat.le_of_lt ap),aB,J2,aAA,hi];refine c6 ap ⟨f7 f (rl.drop (j+1)),gX f (rl.drop (j+1)).reverse,.inr ?_,?_,?_⟩
 . rw[uZ];exact pC.cN _ _
 . have:(i:Int) -1=(rl.length:Int) -1 -((j+1:Nat):Int):=by omega
   simp[dt,aY,this]
 . rw[eV]
theorem Rj(a b d:Int)(bk:el a)(aj:el b)(aw:el d)(a4:0<=d):bQ av HL [.int .i64 a,.int .i64 b,.int .i64 d] (fun v=>v=.bool (decide (b -a<=d))):=by
 obtain⟨bU,b4⟩:=bk;obtain⟨c4,dF⟩:=aj;obtain⟨d1,d2⟩:=aw;refine bZ RW (by simp[BL]) ?_;simp-implicitDefEqProofs (maxSteps:=3000000) (disch:=omega) only[go_sem,BL,Jn]
 repeat' (refine AJ (fun h=>?_) (fun h=>?_))
 all_goals
  rw[Bool.eq_iff_iff];simp only[decide_eq_true_eq,Oj,true_iff];omega
theorem Pc(f:bd)(p:dk)(l:List a1)(c:c3)(i:Nat)(aC:f.wf)(bR:f.hS)(ax:0<=p.ga/\p.ga<=1000000)(ag:∀r∈l,r.wf)(hi:i<l.length)(hlen:l.length<=maxLen)
 {M:Mem}{v:V}{S:Nat->Int}{rl:List a1}(h:pC M v (no f S rl))(e1:cL M.length M=true):
 cj av Dq [v,.agg p.row,.slice (l.map a1.row) c,.int .i64 i] M (fun v ah=>v=.int .i64 (hO f p l i)/\ah=M):=by
 have hm:maxLen=9223372036854775807:=by rfl
 obtain⟨d1,d2⟩:=bR.lq;have dh:∀(K:Mem)(B:a2),(K++[B])[K.length]? =some B:=fun K B=>by simp
 have CE:∀(K:Mem)(B:a2),(K++[B]).take K.length=K:=fun K B=>by simp
 have kX:∀(K:Mem)(B:a2),decide (K.length<=(K++[B]).length)=true:=fun K B=>by simp
 have a4:=h.k3 0 (fG _);have Lx:=fun B=>h.DQ 0 1 false [B] (fG _);have gm:iC 1 false ((no f S rl).drop 0) 0=some (.cN (im f)):=by rw[ze];rfl
 rw[gm] at Lx;have jM:∀cs,m4 (.cN cs)=some (.cN cs):=fun _=>rfl;refine bZ RR (by simp[BG]) ?_;obtain⟨b,aj⟩:∃b,l[i]? =some b:=⟨l[i],by simp⟩;obtain⟨a,bk⟩:∃a,l[i -1]? =some a:=⟨l[i -1],by simp⟩;have aT:hO f p l i=if 0<i/\b.cB -a.c_<=f.within then max 0 (p.ga -f.lq) else p.ga:=by simp only[hO,bk,aj]
 simp-implicitDefEqProofs (disch:=omega) only[go_sem,BG,dk.row];refine a5 (fun U=>?_) (fun U=>?_);rotate_left
 . simp-implicitDefEqProofs (disch:=omega) only[go_sem,dh,aT,CE,e1]
   rw[if_neg (fun e=>by omega)]
 simp-implicitDefEqProofs (disch:=omega) only[go_sem,h.nil,a4,Lx,jM,im,bk,aj,a1.row];first|refine b0 (Rj _ _ _ (ag a (dO bk)).2.1 (ag b (dO aj)).1 aC.2.2.2.1 bR.within.1) ?_|refine bV (Rj _ _ _ (ag a (dO bk)).2.1 (ag b (dO aj)).1 aC.2.2.2.1 bR.within.1) ?_
 simp-implicitDefEqProofs (disch:=omega) only[go_sem];refine a5 (fun af=>?_) (fun af=>?_)
 . simp-implicitDefEqProofs (disch:=omega) only[go_sem,h.nil,a4,Lx,jM,im,dh,aT,CE,e1]
   rw[if_pos ⟨by omega,af⟩]
 . simp-implicitDefEqProofs (disch:=omega) only[go_sem,dh,aT,CE,e1]
   rw[if_neg (fun e=>af e.2)]
def tp(f:bd):V:=f7 f []
theorem Pa(f:bd)(aC:f.wf):bQ av xJ [.agg f.row] (fun v=>((j6 f).2≠0->v=.tuple [.dm,.int .i64 20])/\((j6 f).2=0->v=.tuple [tp f,.int .i64 0])):=by
 refine bZ RN (by simp[BC]) ?_;simp-implicitDefEqProofs (disch:=omega) only[go_sem,BC,bd.row];first|refine b0 (D7 f aC) ?_|refine bV (D7 f aC) ?_
 simp-implicitDefEqProofs (disch:=omega) only[go_sem,ic];refine a5 (fun U=>?_) (fun U=>?_);rotate_left
 . simp-implicitDefEqProofs (disch:=omega) only[go_sem,ic]
   simp[U]
 have lV:=(wK U).len;simp-implicitDefEqProofs (disch:=omega) only[go_sem,u9 (f:=dk.row) (n:=6) (fun r=>rfl) f.cH,Bool.true_or];have ak:∀i,gX f [] i=0:=aMi f;have he:tp f=.cN (.cN (im f)::.dm::.int .i64 0::.int .i64 0::.int .i64 0::.int .i64 0::.int .i64 0::[.int .i64 0,.int .i64 0,.int .i64 0,.int .i64 0,.int .i64 0,.int .i64 0,.int .i64 0,.int .i64 0,.int .i64 0]):=by
  simp only[tp,f7,se,jD,ak]
 rw[he];rw[aAU];show true=true/\(((j6 f).2≠0->_=_)/\((j6 f).2=0->_=_))/\_;exact⟨rfl,⟨fun h=>absurd U h,fun _=>rfl⟩,rfl,rfl⟩
theorem Z_(f:bd)(rl:List a1)(hlen:rl.length<=8):bQ av HH [f7 f rl] (fun v=>v=Am (ym f (gJ f rl.reverse))):=by
 have ak:gX f rl.reverse rl.length=gJ f rl.reverse:=by rw[gX,if_pos (by simp),g1 (by simp)]
 have aB:=N9 (gX f rl.reverse) (i:=rl.length) (by omega);rw[ak] at aB;have jM:∀cs,m4 (.cN cs)=some (.cN cs):=fun _=>rfl;have xh:∀cs,dB .eql .ptr (.cN cs) .dm=some (.bool false):=fun _=>rfl;rw[uZ,ze,se];refine bZ aCi (by simp[FC]) ?_;simp-implicitDefEqProofs (disch:=omega) only[go_sem,FC,jM,xh,JJ,aB];refine a5 (fun U=>?_) (fun U=>?_)
 . simp-implicitDefEqProofs (disch:=omega) only[go_sem,ym,Am]
   rw[if_pos U]
 simp-implicitDefEqProofs (disch:=omega) only[go_sem,jM,JJ,aB,im];refine a5 (fun af=>?_) (fun af=>?_)
 . simp-implicitDefEqProofs (disch:=omega) only[go_sem,ym,Am]
   rw[if_neg U,if_pos (.inl af)]
 simp-implicitDefEqProofs (disch:=omega) only[go_sem,jM,im];refine a5 (fun ay=>?_) (fun ay=>?_)
 . simp-implicitDefEqProofs (disch:=omega) only[go_sem,ym,Am]
   rw[if_neg U,if_pos (.inr ay)]
 simp-implicitDefEqProofs (disch:=omega) only[go_sem,jM,im,ym,Am];rw[if_neg U,if_neg (by omega)]
theorem aMd(a b c d e f g:V)(S:Nat->Int){i:Nat}(h:i<9):(a::b::c::d::e::f::g::jD S)[7+i*1]? =some (.int .i64 (S i)):=by
 rw[kN,show 7+i=i+1+1+1+1+1+1+1 by omega];exact Wy S h
theorem aLC(a b c d e f g:V)(S:Nat->Int)(x:Int){i:Nat}(h:i<9):(a::b::c::d::e::f::g::jD S).set (7+i*1) (.int .i64 x)=a::b::c::d::e::f::g::jD (fun j=>if j=i then x else S j):=by
 rw[kN,show 7+i=i+1+1+1+1+1+1+1 by omega];simp only[List.set_cons_succ,aMf S x h]
theorem O_(f:bd)(r:a1)(aC:f.wf)(bR:f.hS)(al:r.wf){rl:List a1}(ag:∀x∈rl,x.wf)(hlen:rl.length<8):
 bQ av Do [f7 f rl,.agg r.row] (fun v=>v=.tuple [f7 f (r::rl),.int .i64 0]):=by
 have jM:∀cs,m4 (.cN cs)=some (.cN cs):=fun _=>rfl;have Hj:∀i o,m4 (.ptr i o)=some (.ptr i o):=fun _ _=>rfl;have xh:∀cs,dB .eql .ptr (.cN cs) .dm=some (.bool false):=fun _=>rfl;refine bZ RP (by simp[BE]) ?_;have o3:f7 f rl=.cN (se f (VC f rl) (M5 rl) (rl.length:Nat) (gX f rl.reverse)):=by rw[uZ,ze]
 obtain⟨cs,eN,Ml,d6,h7,aFZ,aAy⟩:∃cs,f7 f rl=.cN cs/\cs.length=16/\(cs.drop 6)[0]? =some (.int .i64 (rl.length:Nat))/\cs[0]? =some (.cN (im f))/\(cs.drop 7).length=9/\(cs.drop 7).take 9=jD (gX f rl.reverse):=
  ⟨_,o3,rfl,rfl,rfl,rfl,rfl⟩;rw[eN];simp-implicitDefEqProofs (disch:=omega) only[go_sem,BE,jM,xh,Ml,d6,a1.row];refine a5 (fun U=>?_) (fun U=>?_)
 . omega
 simp-implicitDefEqProofs (disch:=omega) only[go_sem,jM,Ml,d6,h7,aFZ,aAy,JJ,aMe];have iq:no f (gX f rl.reverse) (r::rl)=.cN (im f)::.cN cs::.int .i64 r.cB::.int .i64 r.c_::.int .i64 r.gb::.int .i64 r.eP::.int .i64 ((rl.length:Int)+1)::jD (gX f rl.reverse):=by
  rw[no,se,eN];rfl
 rw[<-iq];have mR:∀L:Mem,pC (.box r.row::.box (no f (gX f rl.reverse) (r::rl))::L) (.ptr 1 0) (no f (gX f rl.reverse) (r::rl)):=fun L=>pC.ptr rfl;have e1:∀L:Mem,cL (L.length+2) L=true->cL (L.length+2) (.box r.row::.box (no f (gX f rl.reverse) (r::rl))::L)=true:=fun L dh=>by
  simp[cL,a2.under,cS,V.under,a1.row,iq,aMg,dh]
 have p1:=Pb (mR []) (by rfl) (e1 [] rfl) (by simp;omega);simp only[a1.row] at p1;refine ew p1 ?_;rintro v N ⟨rfl,rfl⟩;rw[iq];simp-implicitDefEqProofs (disch:=omega) only[go_sem];have ei:∀x∈(r::rl).reverse,x.wf:=by
  intro x ab;rw[List.mem_reverse,jm] at ab;rcases ab with rfl|ab
  . exact al
  . exact ag x ab
 have o9:(r::rl).reverse.length=rl.length+1:=by simp
 have Db:∀i,i<rl.length+1->gX f rl.reverse i=gJ f ((r::rl).reverse.take i):=by
  intro i hi;rw[gX,if_pos (by simp;omega),List.reverse_cons,List.take_append_of_le_length (by simp;omega)]
 have CP:f7 f (r::rl)=.cN (.cN (im f)::.cN cs::.int .i64 r.cB::.int .i64 r.c_::.int .i64 r.gb::.int .i64 r.eP::.int .i64 ((rl.length:Int)+1)::jD (gX f (r::rl).reverse)):=by
  rw[f7,se,eN];rfl
 generalize zA:(r::rl).reverse=l at*;generalize aEg:gX f rl.reverse=S at*;generalize T0:((rl.length:Int)+1)=JA at*;have db:∀X,X=[a2.box [.int .i64 r.cB,.int .i64 r.c_,.int .i64 r.gb,.int .i64 r.eP],.box (.cN (im f)::.cN cs::.int .i64 r.cB::.int .i64 r.c_::.int .i64 r.gb::.int .i64 r.eP::.int .i64 JA::jD S)]->X=X:=fun _ _=>rfl;refine gg l.length (fun i vs dP=>∃b,Seen f l (fun eI _=>eI<i) b/\b<=9000000/\vs=[.cN cs,.ptr 1 0,.slice (l.map a1.row) .cv,.int .i64 b,.int .i64 l.length,.int .i64 i]/\
  dP=[.box [.int .i64 r.cB,.int .i64 r.c_,.int .i64 r.gb,.int .i64 r.eP],.box (.cN (im f)::.cN cs::.int .i64 r.cB::.int .i64 r.c_::.int .i64 r.gb::.int .i64 r.eP::.int .i64 JA::jD S)])
  ⟨-1,⟨.inl rfl,fun _ _ _ h=>absurd h (fb _)⟩,by omega,by simp[dt,aY],rfl⟩ ?_ ?_;rotate_left
 . rintro vs dP ⟨b,aj,q5,rfl,rfl⟩
   have xd:=aj.done bR (by omega) (fun i p hi _=>hi);have Ho:JA=((rl.length+1:Nat):Int):=by omega
   have eV:=aLC (.cN (im f)) (.cN cs) (.int .i64 r.cB) (.int .i64 r.c_) (.int .i64 r.gb) (.int .i64 r.eP) (.int .i64 ((rl.length+1:Nat):Int)) S b (i:=rl.length+1) (by omega);subst Ho;simp-implicitDefEqProofs (disch:=omega) only[go_sem,dg,Hj,eV,JJ];have di:(fun j=>if j=rl.length+1 then b else S j)=gX f l:=by
    funext j;rcases Nat.lt_trichotomy j (rl.length+1) with ay|ay|ay
    . rw[if_neg (by omega),Db j ay,gX,if_pos (by omega)]
    . subst ay
      rw[if_pos rfl,xd,gX,if_pos (by omega),<-o9,g0]
    . rw[if_neg (by omega),<-aEg,gX,gX,if_neg (by simp;omega),if_neg (by omega)]
   rw[di,CP,aAV];exact⟨rfl,rfl,rfl,rfl⟩
 rintro i vs dP hi bf ⟨b,aj,q5,rfl,rfl⟩;have CO:∀k,k<=4->kz k (.cN (im f))=some (.gC ((im f).drop k)):=fun k ao=>by simp[kz,im,ao]
 simp-implicitDefEqProofs (disch:=omega) only[go_sem,bf,jM,Ml,h7,im];refine gg f.cH.length (fun q vs fH=>∃b,Seen f l (fun eI p'=>eI<i∨eI=i/\p'<q) b/\b<=9000000/\vs=[.cN cs,.ptr 1 0,.slice (l.map a1.row) .cv,.int .i64 b,.int .i64 i,.int .i64 l.length,.int .i64 i,.slice (f.cH.map dk.row) .cv,.int .i64 f.cH.length,.int .i64 q]/\
  fH=[.box [.int .i64 r.cB,.int .i64 r.c_,.int .i64 r.gb,.int .i64 r.eP],.box (.cN (im f)::.cN cs::.int .i64 r.cB::.int .i64 r.c_::.int .i64 r.gb::.int .i64 r.eP::.int .i64 JA::jD S)])
  ⟨b,⟨aj.made,fun eI p' s aq hw=>aj.least eI p' s (by omega) hw⟩,q5,by simp[dt,aY],rfl⟩ ?_ ?_;rotate_left
 . rintro vs fH ⟨b,aj,q5,rfl,rfl⟩
   simp-implicitDefEqProofs (disch:=omega) only[go_sem,dg];refine c6 hi ⟨b,⟨aj.made,fun eI p' s aq hw=>aj.least eI p' s ?_ hw⟩,q5,?_,rfl⟩
   . obtain⟨q,_,af,_⟩:=hw
     have:=(bn.1 af).1;omega
   . simp only[dt,aY];rfl
 rintro q vs fH aG aGD ⟨b,aj,q5,rfl,rfl⟩;obtain⟨ot,mX⟩:∃ot,f.cH[q]? =some ot:=⟨f.cH[q],by simp⟩;have MA:=dO mX;have Mz:=bR.len;have de:(part l i (l.length -1)).length<=maxLen:=by
  have hm:maxLen=9223372036854775807:=by rfl
  rw[D5 (by omega)];omega
 have lP:=Db i (by omega);have lQ:∀eI p',(eI<i∨eI=i/\p'<q+1)->(eI<i∨eI=i/\p'<q)∨(eI=i/\p'=q):=by intro eI p' h;omega
 obtain⟨c0,Hl⟩:∃c0,∀M,g7 4 (.slice (l.map a1.row) .cv) (some (.int .i64 (i:Int))) none none M=some (.slice ((l.drop i).map a1.row) c0):=⟨_,fun M=>by
  rw[Wh 4 _ _ _ _ _ (by omega) (by rw[eD];omega) (u9 (f:=a1.row) (fun _=>rfl) _),<-List.map_drop];rfl⟩;have C3:l.drop i=part l i (l.length -1):=by unfold part;rw[g1 (by simp;omega)]
 rw[C3] at Hl;have Da:=fun a b c d e g h=>aMd a b c d e g h S (i:=i) (by omega);simp-implicitDefEqProofs (disch:=omega) only[go_sem,aGD,mX,dk.row,Hj,Da];refine a5 (fun ay=>?_) (fun ay=>?_)
 . simp-implicitDefEqProofs (disch:=omega) only[go_sem]
   refine dC aG rfl ⟨b,aj.skip (i:=i) (p:=q) ?_ lQ,q5,?_,rfl⟩
   . rintro s ⟨_,_,_,be,_⟩
     rw[<-lP] at be;omega
   . simp only[dt,aY];rfl
 simp-implicitDefEqProofs (disch:=omega) only[go_sem,Hl];first|refine b0 (An ot (part l i (l.length -1)) c0 (aC.1 ot MA) (fun x ab=>ei x (Ak ab)) de) ?_|refine bV (An ot (part l i (l.length -1)) c0 (aC.1 ot MA) (fun x ab=>ei x (Ak ab)) de) ?_
 simp-implicitDefEqProofs (disch:=omega) only[go_sem];refine cp (fun be=>?_) (fun be=>?_);rotate_left
 . simp-implicitDefEqProofs (disch:=omega) only[go_sem]
   refine dC aG rfl ⟨b,aj.skip (i:=i) (p:=q) ?_ lQ,q5,?_,rfl⟩
   . rintro s ⟨jU,_,bv,_,b7,_⟩
     rw[mX] at bv;simp only[aV] at bv;subst bv;rw[be] at b7;simp at b7
   . simp only[dt,aY];rfl
 simp-implicitDefEqProofs (disch:=omega) only[go_sem,Hj,Da];have su:=(bR.vT ot MA).1;have T8:=Of (f:=f) (l:=l) (i:=i) su bR.lq.1;have S6:0<=gJ f (l.take i):=by rw[<-lP];omega
 have aOc:gJ f (l.take i)<=8000000:=by
  obtain⟨d,a6,ba⟩:=Nj S6;have:=wL bR _ _ a6;rw[iw] at this;omega
 have MO:Way f l i q (gJ f (l.take i)+hO f ot l i):=⟨ot,hi,mX,S6,be,rfl⟩;have mq:=Pc f ot l .cv i aC bR su ei hi (by have hm:maxLen=9223372036854775807:=rfl;omega) (mR [.box ot.row]) (e1 [.box ot.row] rfl);simp only[iq,a1.row,dk.row] at mq;refine me mq ?_;simp-implicitDefEqProofs (disch:=omega) only[go_sem,Hj,Da,lP];refine a5 (fun bv=>?_) (fun bv=>?_)
 . simp-implicitDefEqProofs (disch:=omega) only[go_sem]
   refine dC aG rfl ⟨_,aj.take MO (by omega) (.inl bv) lQ,by omega,?_,rfl⟩;simp only[dt,aY];rfl
 simp-implicitDefEqProofs (disch:=omega) only[go_sem];refine a5 (fun b7=>?_) (fun b7=>?_)
 . simp-implicitDefEqProofs (disch:=omega) only[go_sem]
   refine dC aG rfl ⟨_,aj.take MO (by omega) (.inr b7) lQ,by omega,?_,rfl⟩;simp only[dt,aY];rfl
 . simp-implicitDefEqProofs (disch:=omega) only[go_sem]
   refine dC aG rfl ⟨b,aj.fJ MO bv b7 lQ,q5,?_,rfl⟩;simp only[dt,aY];rfl
end Go.aQ.C
namespace Go.aQ.C
open Go.aQ
def AT(v:V):Prop:=∃b:Bool,v=.bool b
structure Open where
 product:Int
 cB:Int
 b1:Int
 sum:Int
 gb:Nat
def Open.row(o:Open):List V:=[.int .i64 o.product,.int .i64 o.cB,.int .i64 o.b1,.int .i64 o.sum,.int .u64 o.gb]
theorem aKU(o x:Open):bQ av HJ [.agg o.row,.agg x.row] AT:=by
 refine bZ RU (by simp[BJ]) ?_;simp-implicitDefEqProofs (disch:=omega) only[go_sem,BJ,Open.row]
 repeat' (first|simp-implicitDefEqProofs (disch:=omega) only[go_sem]|refine a5 (fun h=>?_) (fun h=>?_))
 all_goals exact⟨_,rfl⟩
theorem Yr(x:Nat):∃n,bQ av H6 [.int .u64 x] (fun v=>v=.int .i64 n):=by
 have ak:∀(a:Int)(c:Nat),dB .shr .none (.int .u64 a) (.int .u64 c)=some (.int .u64 (a.fdiv (2^min c 64))):=fun a c=>by
  show ox .shr .u64 a c=_;unfold ox;rw[decide_eq_false (by omega)];rfl
 have s1:∀a:Int,dB .shr .none (.int .u64 a) (.int .u64 1)=some (.int .u64 (a.fdiv (2^min 1 64))):=fun a=>ak a 1;have ds:∀a:Int,dB .shr .none (.int .u64 a) (.int .u64 2)=some (.int .u64 (a.fdiv (2^min 2 64))):=fun a=>ak a 2;have kH:∀a:Int,dB .shr .none (.int .u64 a) (.int .u64 4)=some (.int .u64 (a.fdiv (2^min 4 64))):=fun a=>ak a 4;have aLq:∀a:Int,dB .shr .none (.int .u64 a) (.int .u64 8)=some (.int .u64 (a.fdiv (2^min 8 64))):=fun a=>ak a 8;have aLn:∀a:Int,dB .shr .none (.int .u64 a) (.int .u64 16)=some (.int .u64 (a.fdiv (2^min 16 64))):=fun a=>ak a 16;have aLo:∀a:Int,dB .shr .none (.int .u64 a) (.int .u64 32)=some (.int .u64 (a.fdiv (2^min 32 64))):=fun a=>ak a 32;refine⟨?_,bZ Se (by simp[B1]) ?_⟩;rotate_left
 . simp-implicitDefEqProofs (disch:=omega) only[go_sem,B1,s1,ds,kH,aLq,aLn,aLo]
   rfl
theorem Cz(f:bd)(rl:List a1)(hlen:rl.length<=8):∃cs,f7 f rl=.cN cs/\cs.length=16/\cs[0]? =some (.cN (im f))/\(cs.drop 3)[0]? =some (.int .i64 (M5 rl).c_)/\(cs.drop 6)[0]? =some (.int .i64 (rl.length:Nat))/\(cs.drop 7).length=9/\cs.drop 7=jD (gX f rl.reverse)/\
 ((cs.drop 7).drop (rl.length*1))[0]? =some (.int .i64 (gJ f rl.reverse)):=
 ⟨_,by rw[uZ,ze],rfl,rfl,rfl,rfl,rfl,rfl,by
   have ak:gX f rl.reverse rl.length=gJ f rl.reverse:=by rw[gX,if_pos (by simp),g1 (by simp)]
   rw[<-ak];exact N9 _ (by omega)⟩
theorem aAi(f:bd)(rl sJ:List a1)(ag:rl.length<=8)(aG:sJ.length<=8):bQ av HI [f7 f rl,f7 f sJ] AT:=by
 obtain⟨cs,a6,bU,b4,cG,dl,eY,_,fQ⟩:=Cz f rl ag;obtain⟨bI,ba,c4,dF,mN,f6,j5,_,eZ⟩:=Cz f sJ aG;have jM:∀cs,m4 (.cN cs)=some (.cN cs):=fun _=>rfl;have aw:∀c:List V,(c.drop 2).drop 1=c.drop 3:=fun c=>by rw[List.drop_drop]
 have vw:(cs.drop 2).length=14:=by rw[List.length_drop,bU]
 have tQ:(bI.drop 2).length=14:=by rw[List.length_drop,c4]
 rw[a6,ba];refine bZ RT (by simp[BI]) ?_;simp-implicitDefEqProofs (disch:=omega) only[go_sem,BI,jM,bU,dl,eY,fQ,c4,f6,j5,eZ]
 repeat' (first|simp-implicitDefEqProofs (disch:=omega) only[go_sem,jM,bU,b4,cG,dl,vw,aw,c4,mN,f6,tQ,im]|refine a5 (fun h=>?_) (fun h=>?_))
 all_goals exact⟨_,rfl⟩
theorem aLt(f:bd)(aC:f.cH.length<=40):bQ av HK [.cN (im f),.cN (im f)] AT:=by
 have jM:∀cs,m4 (.cN cs)=some (.cN cs):=fun _=>rfl;refine bZ RV (by simp[BK]) ?_;simp-implicitDefEqProofs (disch:=omega) only[go_sem,BK];refine aJZ fun b=>?_;simp-implicitDefEqProofs (disch:=omega) only[go_sem];refine cp (fun a4=>?_) (fun a4=>?_)
 . simp-implicitDefEqProofs (disch:=omega) only[go_sem]
   exact⟨_,rfl⟩
 simp-implicitDefEqProofs (disch:=omega) only[go_sem,jM,im];refine ek f.cH (fun i vs N=>vs=[.cN (im f),.slice (f.cH.map dk.row) .cv,.int .i64 f.cH.length,.int .i64 i]/\N=[]) ⟨by simp[dt,aY,im],rfl⟩ ?_ ?_;rotate_left
 . rintro vs N ⟨rfl,rfl⟩
   simp-implicitDefEqProofs (disch:=omega) only[go_sem,dg];exact⟨_,rfl⟩
 rintro i p vs N ax hi aw ⟨rfl,rfl⟩;simp-implicitDefEqProofs (disch:=omega) only[go_sem,aw,ax,jM,im,dk.row];exact dC hi rfl ⟨rfl,rfl⟩
theorem WJ(f:bd)(aC:f.wf)(bR:f.hS)(rl:List a1)(ag:∀x∈rl,x.wf)(hlen:rl.length<=8):
 bQ av Dr [f7 f rl] (fun v=>∃os:List Open,v=.slice (os.map Open.row) .cv/\os.length<=1000):=by
 obtain⟨cs,a6,bU,b4,_,dl,eY,fQ,_⟩:=Cz f rl hlen;have jM:∀cs,m4 (.cN cs)=some (.cN cs):=fun _=>rfl;have Mz:=bR.len;have ei:∀x∈rl.reverse,x.wf:=fun x ab=>ag x (List.mem_reverse.1 ab);have p1:=fun M e1=>Pb (M:=M) (v:=f7 f rl) (f:=f) (S:=gX f rl.reverse) (by rw[uZ];exact pC.cN _ _) (GO f rl _) e1 hlen;have mX:=fun(p:dk)(c:c3)(i:Nat)(ax:0<=p.ga/\p.ga<=1000000)(hi:i<rl.reverse.length)(M:Mem)(e1:cL M.length M=true)=>
  Pc (M:=M) (v:=f7 f rl) f p rl.reverse c i aC bR ax ei hi (by have hm:maxLen=9223372036854775807:=rfl;rw[List.length_reverse];omega) (S:=gX f rl.reverse) (rl:=rl) (by rw[uZ];exact pC.cN _ _) e1;have Db:∀i,i<rl.length->gX f rl.reverse i=gJ f (rl.reverse.take i):=by
  intro i hi;rw[gX,if_pos (by simp;omega)]
 have o9:rl.reverse.length=rl.length:=by simp
 rw[a6] at p1 mX⊢;generalize zA:rl.reverse=l at*;refine bZ RS (by simp[BH]) ?_;simp-implicitDefEqProofs (disch:=omega) only[go_sem,BH];refine ew (p1 _ rfl) ?_;rintro v N ⟨rfl,rfl⟩;simp-implicitDefEqProofs (disch:=omega) only[go_sem];refine gg l.length (fun i vs N=>∃ver os,vs=[.cN cs,.aX 0 ver 0 (os:List Open).length,.slice (l.map a1.row) .cv,.int .i64 l.length,.int .i64 i]/\N=[.arr 5 (os.map Open.row) ver 0]/\os.length<=i*f.cH.length) ⟨0,[],rfl,rfl,by simp⟩ ?_ ?_;rotate_left
 . rintro vs N ⟨ver,os,rfl,rfl,az⟩
   have aj:l.length*f.cH.length<=8*16:=Nat.mul_le_mul (by omega) Mz;have aT:(os.map Open.row).take os.length=os.map Open.row:=g1 (by simp);simp-implicitDefEqProofs (disch:=omega) only[go_sem,dg,aT];exact⟨os,rfl,by omega⟩
 rintro i vs N hi bf ⟨ver,os,rfl,rfl,az⟩;have lP:=Db i (by omega);have aB:=N9 (gX f l) (i:=i) (by omega);rw[<-fQ] at aB;simp-implicitDefEqProofs (disch:=omega) only[go_sem,bf,jM,bU,eY,aB];have aGi:(i+1)*f.cH.length=i*f.cH.length+f.cH.length:=by rw[ik,Nat.one_mul]
 have aj:i*f.cH.length<=8*16:=Nat.mul_le_mul (by omega) Mz;refine a5 (fun ay=>?_) (fun ay=>?_)
 . simp-implicitDefEqProofs (disch:=omega) only[go_sem]
   exact c6 hi ⟨ver,os,rfl,rfl,by omega⟩
 obtain⟨c0,Hl⟩:∃c0,∀M,g7 4 (.slice (l.map a1.row) .cv) (some (.int .i64 (i:Int))) none none M=some (.slice ((l.drop i).map a1.row) c0):=⟨_,fun M=>by
  rw[Wh 4 _ _ _ _ _ (by omega) (by rw[eD];omega) (u9 (f:=a1.row) (fun _=>rfl) _),<-List.map_drop];rfl⟩;simp-implicitDefEqProofs (disch:=omega) only[go_sem,Hl];have gR:(l.drop i).length=l.length -i:=List.length_drop;refine ek (l.drop i) (fun j vs N=>∃z m:Nat,vs=[.cN cs,.aX 0 ver 0 os.length,.slice (l.map a1.row) .cv,.int .i64 i,.int .u64 z,.int .u64 m,.int .i64 l.length,.int .i64 i,.slice ((l.drop i).map a1.row) c0,.int .i64 (l.drop i).length,.int .i64 j]/\N=[.arr 5 (os.map Open.row) ver 0]/\z<18446744073709551616/\m<18446744073709551616) ⟨0,0,rfl,rfl,by omega,by omega⟩ ?_ ?_
 . rintro j r vs N al ap mn ⟨z,m,rfl,rfl,h0,g9⟩
   simp-implicitDefEqProofs (disch:=omega) only[go_sem,mn,al,a1.row,A4,D2 _ _ h0 (qR _),D2 _ _ g9 (qR _)];exact dC ap rfl ⟨_,_,rfl,rfl,D3 _ _ h0 (qR _),D3 _ _ g9 (qR _)⟩
 rintro vs N ⟨z,m,rfl,rfl,h0,g9⟩;simp-implicitDefEqProofs (disch:=omega) only[go_sem,dg,jM,bU,b4,im];refine ek f.cH (fun k vs N=>∃ver os,vs=[.cN cs,.aX 0 ver 0 (os:List Open).length,.slice (l.map a1.row) .cv,.int .i64 i,.int .u64 z,.int .u64 m,.int .i64 l.length,.int .i64 i,.slice (f.cH.map dk.row) .cv,.int .i64 f.cH.length,.int .i64 k]/\N=[.arr 5 (os.map Open.row) ver 0]/\os.length<=i*f.cH.length+k) ⟨ver,os,rfl,rfl,by omega⟩ ?_ ?_;rotate_left
 . rintro vs N ⟨ver,os,rfl,rfl,az⟩
   simp-implicitDefEqProofs (disch:=omega) only[go_sem,dg];exact c6 hi ⟨ver,os,rfl,rfl,by omega⟩
 rintro k p vs N ax ao fw ⟨ver,os,rfl,rfl,az⟩;obtain⟨r,al⟩:∃r,l[i]? =some r:=⟨l[i],by simp⟩;obtain⟨ln,mj⟩:=Yr z;have su:=(bR.vT p (dO ax)).1;simp-implicitDefEqProofs (disch:=omega) only[go_sem,fw,ax,dk.row];refine a5 (fun be=>?_) (fun be=>?_);rotate_left
 . simp-implicitDefEqProofs (disch:=omega) only[go_sem]
   exact dC ao rfl ⟨ver,os,rfl,rfl,by omega⟩
 simp-implicitDefEqProofs (disch:=omega) only[go_sem];first|refine b0 (mj) ?_|refine bV (mj) ?_
 simp-implicitDefEqProofs (disch:=omega) only[go_sem];refine a5 (fun bv=>?_) (fun bv=>?_);rotate_left
 . simp-implicitDefEqProofs (disch:=omega) only[go_sem]
   exact dC ao rfl ⟨ver,os,rfl,rfl,by omega⟩
 simp-implicitDefEqProofs (disch:=omega) only[go_sem,A4];refine a5 (fun b7=>?_) (fun b7=>?_);rotate_left
 . simp-implicitDefEqProofs (disch:=omega) only[go_sem]
   exact dC ao rfl ⟨ver,os,rfl,rfl,by omega⟩
 simp-implicitDefEqProofs (disch:=omega) only[go_sem,al,a1.row,jM,bU,eY,aB];have mq:=mX p .cv i su hi [.arr 5 (os.map Open.row) ver 0,.box p.row] rfl;simp only[dk.row] at mq;refine azN mq ?_;have iS:∀(a b c d:Int)(B:a2),d0 false 5 40 (.aX 0 ver 0 os.length) (.slice [[.int .i64 a,.int .i64 b,.int .i64 c,.int .i64 d,.int .u64 z]] .full) [.arr 5 (os.map Open.row) ver 0,B]=some (.aX 0 (ver+1) 0 (os.length+1),[.arr 5 ((os++[(⟨a,b,c,d,z⟩:Open)]).map Open.row) (ver+1) 0,B]):=fun a b c d B=>by
  rw[List.map_append];exact s7 (r:=Open.row ⟨a,b,c,d,z⟩) rfl (by simp) rfl (by omega)
 simp-implicitDefEqProofs (disch:=omega) only[go_sem,iS];exact dC ao rfl ⟨ver+1,os++[_],by simp only[dt,aY,dT];rfl,rfl,by simp;omega⟩
theorem XW(f:bd)(aC:f.wf)(bR:f.hS)(rl sJ:List a1)(ag:∀x∈rl,x.wf)(hlen:rl.length<=8)(aG:∀x∈sJ,x.wf)(MD:sJ.length<=8):
 bQ av HG [f7 f rl,f7 f sJ] AT:=by
 have U:=aLt f (by have:=bR.len;omega);have af:=aAi f rl sJ hlen MD;have ay:=WJ f aC bR rl ag hlen;have be:=WJ f aC bR sJ aG MD;obtain⟨cs,a6,bU,b4,_⟩:=Cz f rl hlen;obtain⟨bI,ba,c4,dF,_⟩:=Cz f sJ MD;have jM:∀cs,m4 (.cN cs)=some (.cN cs):=fun _=>rfl;have xh:∀cs,dB .eql .ptr (.cN cs) .dm=some (.bool false):=fun _=>rfl;rw[a6,ba] at af⊢;rw[a6] at ay;rw[ba] at be;refine bZ RO (by simp[BD]) ?_;simp-implicitDefEqProofs (disch:=omega) only[go_sem,BD,jM,xh,bU,b4,c4,dF];refine fI U ?_;rintro v ⟨b,rfl⟩;simp-implicitDefEqProofs (disch:=omega) only[go_sem];refine cp (fun h=>?_) (fun h=>?_);rotate_left
 . simp-implicitDefEqProofs (disch:=omega) only[go_sem]
   exact⟨_,rfl⟩
 simp-implicitDefEqProofs (disch:=omega) only[go_sem];refine fI af ?_;rintro v ⟨dF,rfl⟩;simp-implicitDefEqProofs (disch:=omega) only[go_sem];refine cp (fun h=>?_) (fun h=>?_);rotate_left
 . simp-implicitDefEqProofs (disch:=omega) only[go_sem]
   exact⟨_,rfl⟩
 simp-implicitDefEqProofs (disch:=omega) only[go_sem];refine fI ay ?_;rintro v ⟨A,rfl,et⟩;simp-implicitDefEqProofs (disch:=omega) only[go_sem];refine fI be ?_;rintro v ⟨B,rfl,bY⟩;simp-implicitDefEqProofs (disch:=omega) only[go_sem];refine ek B (fun i vs N=>vs=[.slice (A.map Open.row) .cv,.slice (B.map Open.row) .cv,.int .i64 B.length,.int .i64 i]/\N=[]) ⟨rfl,rfl⟩ ?_ ?_;rotate_left
 . rintro vs N ⟨rfl,rfl⟩
   simp-implicitDefEqProofs (disch:=omega) only[go_sem,dg];exact⟨_,rfl⟩
 rintro i o vs N az hi bf ⟨rfl,rfl⟩;simp-implicitDefEqProofs (disch:=omega) only[go_sem,bf,az,Open.row];refine ek A (fun j vs N=>∃b:Bool,vs=[.slice (A.map Open.row) .cv,.ptr 0 0,.bool b,.slice (B.map Open.row) .cv,.int .i64 B.length,.int .i64 i,.slice (A.map Open.row) .cv,.int .i64 A.length,.int .i64 j]/\N=[.box o.row]) ⟨false,rfl,rfl⟩ ?_ ?_
 . rintro j a vs N bk ap mn ⟨b,rfl,rfl⟩
   have al:=aKU a o;simp only[Open.row] at al;simp-implicitDefEqProofs (disch:=omega) only[go_sem,mn,bk,Open.row];refine cp (fun ay=>?_) (fun ay=>?_)
   . simp-implicitDefEqProofs (disch:=omega) only[go_sem]
     exact dC ap rfl ⟨_,rfl,rfl⟩
   simp-implicitDefEqProofs (disch:=omega) only[go_sem];refine fI al ?_;rintro v ⟨mN,rfl⟩;simp-implicitDefEqProofs (disch:=omega) only[go_sem];exact dC ap rfl ⟨_,rfl,rfl⟩
 rintro vs N ⟨b,rfl,rfl⟩;simp-implicitDefEqProofs (disch:=omega) only[go_sem,dg];refine cp (fun ay=>?_) (fun ay=>?_)
 . simp-implicitDefEqProofs (disch:=omega) only[go_sem]
   exact dC hi rfl ⟨rfl,rfl⟩
 . simp-implicitDefEqProofs (disch:=omega) only[go_sem]
   exact⟨_,rfl⟩
end Go.aQ.C
namespace Go.aQ.C
open Go.aQ
structure bL where
 a:Int
 b:Int
 c:Int
 d:Int
 deriving DecidableEq
def bL.row(v:bL):List V:=[.int .i64 v.a,.int .i64 v.b,.int .i64 v.c,.int .i64 v.d]
def bL.at(v:bL):Nat->Int
 |0=>v.a
 |1=>v.b
 |2=>v.c
 |_=>v.d
def qf(a b:bL):Bool:=decide (a.a<=b.a)&&(decide (a.b<=b.b)&&(decide (a.c<=b.c)&&decide (a.d<=b.d)))
theorem I6(a b:bL):qf a b=true↔∀k,k<4->a.at k<=b.at k:=by
 simp only[qf,b_,decide_eq_true_eq];constructor
 . rintro⟨a4,U,af,ay⟩ k ao
   have:k=0∨k=1∨k=2∨k=3:=by omega
   rcases this with rfl|rfl|rfl|rfl<;>assumption
 . intro h
   exact⟨h 0 (by omega),h 1 (by omega),h 2 (by omega),h 3 (by omega)⟩
theorem bL.At(v:bL){i:Nat}(h:i<4):v.row[i*1]? =some (.int .i64 (v.at i)):=by
 have:i=0∨i=1∨i=2∨i=3:=by omega
 rcases this with rfl|rfl|rfl|rfl<;>rfl
theorem I1(id i:Nat)(hi:i<4):pm 4 1 (.ptr id 0) (.int .i64 (i:Int))=some (.ptr id (i*1)):=by
 simp only[pm,decide_eq_true (show 0<=(i:Int) by omega),decide_eq_true (show(i:Int)<((4:Nat):Int) by omega),eR,cond_true,lI,kz,ev]
theorem aa6(a b:bL):bQ av Im [.agg a.row,.agg b.row] (fun v=>v=.bool (qf a b)):=by
 refine bZ Sj (by simp[Cc]) ?_;simp-implicitDefEqProofs (disch:=omega) only[go_sem,Cc,bL.row];refine gg 4 (fun i vs M=>(∀k,k<i->a.at k<=b.at k)/\vs=[.ptr 0 0,.ptr 1 0,.int .i64 i]/\M=[.box a.row,.box b.row]) ⟨fun k ao=>absurd ao (fb k),rfl,rfl⟩ ?_ ?_;rotate_left
 . rintro vs M ⟨h,rfl,rfl⟩
   have aw:decide (((4:Nat):Int)<4)=false:=rfl;simp-implicitDefEqProofs (disch:=omega) only[go_sem,aw];exact((I6 a b).2 h).symm
 rintro i vs M hi bf ⟨h,rfl,rfl⟩;have j9:=a.At hi;have zg:=b.At hi;have bf:decide ((i:Int)<4)=true:=bf;simp-implicitDefEqProofs (disch:=omega) only[go_sem,bf,I1 _ _ hi,j9,zg];refine a5 (fun af=>?_) (fun af=>?_)
 . simp-implicitDefEqProofs (disch:=omega) only[go_sem]
   symm;rw[Bool.eq_false_iff];intro ay;have:=(I6 a b).1 ay i hi;omega
 . simp-implicitDefEqProofs (disch:=omega) only[go_sem]
   refine c6 hi ⟨fun k ao=>?_,rfl,rfl⟩;by_cases lT:k=i
   . subst lT;omega
   . exact h k (by omega)
def Aa(a b:bL):Bool:=decide (a≠b)&&qf a b
theorem Oo(a b:bL):(decide (a.a=b.a)&&(decide (a.b=b.b)&&(decide (a.c=b.c)&&decide (a.d=b.d))))=decide (a=b):=by
 cases a;cases b;simp only[bL.mk.injEq];rw[Bool.eq_iff_iff];simp
theorem aJT(a b:bL):bQ av Ik [.agg a.row,.agg b.row] (fun v=>v=.bool (Aa a b)):=by
 have aj:=aa6 a b;simp only[bL.row] at aj;refine bZ Sh (by simp[Ca]) ?_;simp-implicitDefEqProofs (disch:=omega) only[go_sem,Ca,bL.row,Oo];refine a5 (fun h=>?_) (fun h=>?_)
 . simp-implicitDefEqProofs (disch:=omega) only[go_sem]
   simp[Aa,h]
 . simp-implicitDefEqProofs (disch:=omega) only[go_sem]
   first|refine b0 (aj) ?_|refine bV (aj) ?_
   simp-implicitDefEqProofs (disch:=omega) only[go_sem];simp[Aa,h]
def qV(a b:bL):Int:=if a.at 0≠b.at 0 then(if a.at 0<b.at 0 then-1 else 1) else if a.at 1≠b.at 1 then(if a.at 1<b.at 1 then-1 else 1) else if a.at 2≠b.at 2 then(if a.at 2<b.at 2 then-1 else 1) else if a.at 3≠b.at 3 then(if a.at 3<b.at 3 then-1 else 1) else 0
theorem Qz{a b:bL}{i:Nat}(hi:i<4)(h:∀k,k<i->a.at k=b.at k)(cr:a.at i≠b.at i):qV a b=if a.at i<b.at i then-1 else 1:=by
 have:i=0∨i=1∨i=2∨i=3:=by omega
 unfold qV;rcases this with rfl|rfl|rfl|rfl
 . rw[if_pos cr]
 . rw[if_neg (fun e=>e (h 0 (by omega))),if_pos cr]
 . rw[if_neg (fun e=>e (h 0 (by omega))),if_neg (fun e=>e (h 1 (by omega))),if_pos cr]
 . rw[if_neg (fun e=>e (h 0 (by omega))),if_neg (fun e=>e (h 1 (by omega))),if_neg (fun e=>e (h 2 (by omega))),if_pos cr]
theorem aM1{a b:bL}(h:∀k,k<4->a.at k=b.at k):a=b:=by
 cases a;cases b;have a4:=h 0 (by omega);have U:=h 1 (by omega);have af:=h 2 (by omega);have ay:=h 3 (by omega);simp only[bL.at] at a4 U af ay;subst a4 U af ay;rfl
theorem XR(a b:bL):bQ av Ii [.agg a.row,.agg b.row] (fun v=>v=.int .i64 (qV a b)):=by
 refine bZ Sf (by simp[B9]) ?_;simp-implicitDefEqProofs (disch:=omega) only[go_sem,B9,bL.row,Oo];refine a5 (fun h=>?_) (fun h=>?_)
 . simp-implicitDefEqProofs (disch:=omega) only[go_sem]
   subst h;simp[qV]
 simp-implicitDefEqProofs (disch:=omega) only[go_sem];refine gg 4 (fun i vs M=>(∀k,k<i->a.at k=b.at k)/\vs=[.ptr 0 0,.ptr 1 0,.int .i64 i]/\M=[.box a.row,.box b.row]) ⟨fun k ao=>absurd ao (fb k),rfl,rfl⟩ ?_ ?_;rotate_left
 . rintro vs M ⟨af,rfl,rfl⟩
   exact absurd (aM1 af) h
 rintro i vs M hi bf ⟨h,rfl,rfl⟩;have j9:=a.At hi;have zg:=b.At hi;have bf:decide ((i:Int)<4)=true:=bf;simp-implicitDefEqProofs (disch:=omega) only[go_sem,bf,I1 _ _ hi,j9,zg];refine a5 (fun af=>?_) (fun af=>?_)
 . simp-implicitDefEqProofs (disch:=omega) only[go_sem]
   rw[Qz hi h (by omega),if_pos af]
 simp-implicitDefEqProofs (disch:=omega) only[go_sem,I1 _ _ hi,j9,zg];refine a5 (fun ay=>?_) (fun ay=>?_)
 . simp-implicitDefEqProofs (disch:=omega) only[go_sem]
   rw[Qz hi h (by omega),if_neg af]
 . simp-implicitDefEqProofs (disch:=omega) only[go_sem]
   refine c6 hi ⟨fun k ao=>?_,rfl,rfl⟩;by_cases lT:k=i
   . subst lT;omega
   . exact h k (by omega)
theorem Vo(l:List bL)(c:c3)(v:bL)(ag:l.length<=1000000000000):bQ av Ij [.slice (l.map bL.row) c,.agg v.row] (fun x=>x=.bool (l.any fun w=>qf w v)):=by
 refine bZ Sg (by simp[B_]) ?_;simp-implicitDefEqProofs (disch:=omega) only[go_sem,B_,bL.row];refine⟨fun _ _ _=>False,?_,fun _ _ _ h=>h.elim⟩;simp-implicitDefEqProofs (disch:=omega) only[go_sem];refine ek l (fun i vs M=>((l.take i).any fun w=>qf w v)=false/\vs=[.ptr 0 0,.bool false,.slice (l.map bL.row) c,.int .i64 l.length,.int .i64 i]/\M=[.box v.row]) ⟨rfl,rfl,rfl⟩ ?_ ?_;rotate_left
 . rintro vs M ⟨h,rfl,rfl⟩
   rw[g0] at h;simp-implicitDefEqProofs (disch:=omega) only[go_sem,dg];exact h.symm
 rintro i w vs M hw hi bf ⟨h,rfl,rfl⟩;have mV:((l.take (i+1)).any fun w=>qf w v)=qf w v:=by rw[hR,hw,List.any_append,h];simp
 have d9:qf w v=true->(l.any fun w=>qf w v)=true:=fun h=>List.any_eq_true.2 ⟨w,dO hw,h⟩;simp-implicitDefEqProofs (disch:=omega) only[go_sem,bf,hw,bL.row];refine gg 4 (fun k vs M=>(∀j,j<k->w.at j<=v.at j)/\vs=[.ptr 0 0,.bool false,.ptr 1 0,.slice (l.map bL.row) c,.int .i64 l.length,.int .i64 i,.int .i64 k]/\M=[.box v.row,.box w.row]) ⟨fun k ao=>absurd ao (fb k),rfl,rfl⟩ ?_ ?_;rotate_left
 . rintro vs M ⟨h,rfl,rfl⟩
   have aw:decide (((4:Nat):Int)<4)=false:=rfl;simp-implicitDefEqProofs (disch:=omega) only[go_sem,aw];exact(d9 ((I6 w v).2 h)).symm
 rintro k vs M ao fw ⟨be,rfl,rfl⟩;have j9:=w.At ao;have zg:=v.At ao;have fw:decide ((k:Int)<4)=true:=fw;simp-implicitDefEqProofs (disch:=omega) only[go_sem,fw,I1 _ _ ao,j9,zg];refine a5 (fun af=>?_) (fun af=>?_)
 . have aC:qf w v=false:=by
    rw[Bool.eq_false_iff];intro ay;have:=(I6 w v).1 ay k ao;omega
   simp-implicitDefEqProofs (disch:=omega) only[go_sem];exact dC hi rfl ⟨by rw[mV,aC],rfl,rfl⟩
 . simp-implicitDefEqProofs (disch:=omega) only[go_sem]
   refine c6 ao ⟨fun j ap=>?_,rfl,rfl⟩;by_cases lT:j=k
   . subst lT;omega
   . exact be j (by omega)
end Go.aQ.C
namespace Go.aQ.C
open Go.aQ
theorem aHK{w w':World}{Γ Γ':Env}{v:V}{bl:Value}(ak:v.I3=true)(h:bp w Γ v bl):bp w' Γ' v bl:=by
 cases h<;>simp[V.I3] at ak
 . exact .bool _
 . exact .int _ _
 . exact .str _
 . exact .dm
 . exact .gu
 . exact .jB
theorem azL{f:Nat}{args uL:List V}{R:V->Prop}{M:Mem}{K:V->Mem->Prop}(h:bQ av f uL R)(aC:ke (fu M 0 20) args=some uL)(hu:cS 0 uL=true)(ak:∀v,R v->v.I3=true)(ao:∀v,R v->K v M):cj av f args M K:=by
 refine⟨h.1,fun w Γ jI aB bk=>?_⟩;obtain⟨ag,gr⟩:=DU aC;let oE:Env:=⟨w.heap.size,[],(Γ.je w 0).S⟩
 have aE8:Good w oE []:=⟨rfl,fun i l B ag=>by simp[oE] at ag,fun i l ag=>by simp[oE] at ag,fun i j l l' ag=>by simp[oE] at ag,fun b o ak=>by
  rcases ak with ak|⟨_,_,_,_,_,_,aq⟩
  . exact aB.jC b o ak
  . exact aq,cF _,fun w' aj=>aB.jE w' (aj.mono aB.base)⟩;have zl:ef w oE uL jI:=⟨by rw[bk.1,ag],fun j y aD=>by
  obtain⟨x,ab,ka⟩:=gr j y aD;exact bp.move (n:=0) (w:=w) (Γ:=Γ.je w 0) (Γ':=oE) (w':=w) (fun b o ak=>⟨ak,rfl⟩) (fun i hi=>absurd hi (fb i)) (SK aB 20 (bk.2 j x ab) ka) (wa hu j y aD)⟩;refine(h.2 w oE jI aE8 zl).mono ?_;rintro e w' ⟨v,bl,Γ0,ah,he,⟨fO,bb,_⟩,fS,Mf,tC⟩;subst bb;have sh:Go.RowKit.Below w.heap.size w w':=tC.below;let Γ':Env:=⟨Γ.h1,Γ.cW,fun b q=>Γ0.S b q/\(b<w.heap.size->Γ.S b q)⟩
 have iQ:Ext w Γ w' Γ':=⟨fun b q ak=>⟨⟨(tC.s b q (Or.inl ak)).1,fun _=>ak⟩,(tC.s b q (Or.inl ak)).2⟩,fun i l ag=>⟨l,ag,cF _,fun _=>rfl,fun _=>rfl⟩,rfl,sh.mono aB.base,fun b q aj ak=>ak.2 (Nat.lt_of_lt_of_le aj aB.base)⟩;refine⟨v,bl,Γ',M,he,ao v fO,aHK (ak v fO) fS,?_,iQ⟩;exact⟨aB.len,fun i l B ag bY=>(aB.eG i l B ag bY).fJ iQ (fun aq=>sh.block _ (aB.m0 ag aq)) (fun aq q ak=>ak.2 (aB.m0 ag aq)),aB.cq,aB.inj,fun b q ak=>Mf.jC b q ak.1,jH aB.base sh.size,aB.ys iQ⟩
theorem azM{f:Nat}{args uL:List V}{v:V}{M:Mem}{K:V->Mem->Prop}(h:bQ av f uL (fun x=>x=v))(aC:ke (fu M 0 20) args=some uL)(hu:cS 0 uL=true)(ak:v.I3=true)(ao:K v M):@qz av f args M ⟨K⟩:=
 azL h aC hu (fun x ab=>by rw[ab];exact ak) fun x ab=>by rw[ab];exact ao
def lB(v:bL)(l:List bL):List bL:=l.filter fun w=>!Aa v w
def rB(v:bL)(l:List bL):List bL:=l.takeWhile fun w=>decide (qV w v<0)
def rO(v:bL)(l:List bL):List bL:=l.dropWhile fun w=>decide (qV w v<0)
def rC(l:List bL)(v:bL):List bL:=if(l.any fun w=>qf w v)=true then l else rB v (lB v l)++v::rO v (lB v l)
def mQ(l:List bL):List bL:=l.foldl rC []
def uB(M:Mem)(x:V)(l:List bL):Prop:=(x=.slice [] .nil/\l=[])∨∃b ver,x=.aX b ver 0 l.length/\M[b]? =some (.arr 4 (l.map bL.row) ver 0)/\0<l.length
theorem OP{M:Mem}{x:V}{l:List bL}(h:uB M x l)(v:bL):∃c,ke (fu M 0 20) [x,.agg v.row]=some [.slice (l.map bL.row) c,.agg v.row]:=by
 rcases h with⟨rfl,rfl⟩|⟨b,ver,rfl,bb,_⟩
 . exact⟨.nil,rfl⟩
 . refine⟨.cv,?_⟩
   have U:fu M 0 20 (.aX b ver 0 l.length)=some (.slice (l.map bL.row) .cv):=by
    have aw:decide (0+l.length<=(l.map bL.row).length)=true:=decide_eq_true (by simp);simp only[fu,bb,decide_eq_false (fb b),cond_false,beq_self_eq_true,aw,eR,cond_true,l9,g1 (Nat.le_of_eq (eD bL.row):(l.map bL.row).length<=l.length)]
   simp only[ke,U];rfl
theorem UI(zero:List V)(sz bytes n:Nat)(M:Mem)(aK:n<=1000000000000)(aj:bytes<=100):m1 zero sz bytes (.int .i64 (n:Int)) (.int .i64 (n:Int)) M=some (.aX M.length 0 0 n,M++[.arr sz (fV n zero) 0 0]):=by
 have U:(n:Int)*(bytes:Int)<=1000000000000*100:=Int.mul_le_mul (by omega) (by omega) (by omega) (by omega);have bU:decide (0<=(n:Int))=true:=decide_eq_true (by omega);have b4:decide ((n:Int)<=(n:Int))=true:=decide_eq_true (by omega);have cG:decide ((n:Int)*(bytes:Int)<=2^48)=true:=decide_eq_true (by omega);have dl:decide ((n:Int)<2^62)=true:=decide_eq_true (by omega);simp only[m1,bU,b4,cG,dl,lI,eR,cond_true]
theorem Vk:∀(a b c:List (List V)),b.length=c.length->oo (a++b) a.length c=a++c
 |a,[],[],_=>by simp[oo]
 |a,x::b,y::c,h=>by
  have e:(a++x::b).set a.length y=(a++[y])++b:=by rw[List.set_append,if_neg (by omega),mH];simp
  rw[oo,e,show a.length+1=(a++[y]).length by simp,Vk (a++[y]) b c (by simpa using h)];simp
theorem J8{M:Mem}{x:V}{l:List bL}(h:uB M x l)(L:Mem):uB (M++L) x l:=by
 rcases h with h|⟨b,ver,U,af,ay⟩
 . exact .inl h
 . exact .inr ⟨b,ver,U,b6 af L,ay⟩
theorem NH(v:bL)(l:List bL):(lB v l).length<=l.length:=List.length_filter_le _ _
theorem ND(v:bL)(l:List bL):rB v l++rO v l=l:=List.takeWhile_append_dropWhile
theorem aKl{M:Mem}{b ver:Nat}{R:List (List V)}{k:List bL}{v:bL}{sU:Nat}(aj:M[b]? =some (.arr 4 R ver 0))(aq:M[sU]? =some (.box v.row))(ao:k.length<=1000000000000)(ax:0<R.length)(fO:R.take k.length=k.map bL.row)(g4:k.length<=R.length)(s:aH)
 (a4:aY s 0=.aX b ver 0 R.length)(ay:aY s 3=.ptr sU 0)(bv:aY s 5=.int .i64 k.length)(ch:aY s 8=.int .i64 (rB v k).length):
 dv av P8 (pN tm.results (rq fun r ah=>uB ah r (rB v k++v::rO v k))) s M:=by
 have e2:=ND v k;have lV:(rB v k).length+(rO v k).length=k.length:=by rw[<-dT,e2]
 generalize rB v k=T at*;generalize rO v k=S at*;have aEd:R.take T.length=T.map bL.row:=by
  rw[show R.take T.length=(R.take k.length).take T.length by rw[List.take_take,Nat.min_eq_left (by omega)],fO,<-e2];simp
 have aEc:(R.drop T.length).take S.length=S.map bL.row:=by
  rw[show(R.drop T.length).take S.length=(R.take k.length).drop T.length by rw[List.drop_take,show k.length -T.length=S.length by omega],fO,<-e2];simp
 have aEF:(k.length:Int) -(T.length:Int)=(S.length:Nat):=by omega
 have nq:b<M.length:=(bn.1 aj).1;have j_:sU<M.length:=(bn.1 aq).1;have pa:=fun zero=>UI zero 4 32 S.length M (by omega) (by omega);have u3:=fun L=>b6 aj L;have eF:∀L,g7 4 (.aX b ver 0 R.length) (some (.int .i64 (T.length:Nat))) (some (.int .i64 (k.length:Nat))) none (M++L)=some (.aX b ver T.length S.length):=fun L=>by
  have bU:decide (0<=(T.length:Int))=true:=decide_eq_true (by omega);have b4:decide (0<=(k.length:Int))=true:=decide_eq_true (by omega);have cG:decide (T.length<=k.length)=true:=decide_eq_true (by omega);have dl:decide (k.length<=R.length)=true:=decide_eq_true g4;simp only[g7,u3,ix,bU,b4,cG,dl,cond_true,lI,beq_self_eq_true,ev,cF,decide_true,eR];rw[show k.length -T.length=S.length by omega]
 have iT:uQ 4 (.aX M.length 0 0 S.length) (.aX b ver T.length S.length) (M++[.arr 4 (fV S.length [V.int .i64 0,.int .i64 0,.int .i64 0,.int .i64 0]) 0 0])=some (.int .i64 (min S.length (S.map bL.row).length:Nat),M++[.arr 4 (S.map bL.row) 0 0]):=by
  have bU:decide (T.length+S.length<=R.length)=true:=decide_eq_true (by omega);have az:=Vk [] (fV S.length [V.int .i64 0,.int .i64 0,.int .i64 0,.int .i64 0]) (S.map bL.row) (by simp);simp only[List.nil_append,gZ] at az;simp only[uQ,eJ,u3,beq_self_eq_true,bU,eR,cond_true,aEc,List.getElem?_concat_length,ev,List.length_replicate,cF,decide_true,JO,az];simp
 have mS:yj 4 (.aX b ver 0 R.length) (.int .i64 (T.length:Nat)) (.int .i64 (T.length:Nat)) (M++[.arr 4 (S.map bL.row) 0 0])=some (.slice (T.map bL.row) .full,M.set b (.arr 4 R ver (max 0 T.length))++[.arr 4 (S.map bL.row) 0 0]):=by
  have bU:decide (0<=(T.length:Int))=true:=decide_eq_true (by omega);have b4:decide (T.length<=R.length)=true:=decide_eq_true (by omega);have cG:decide (0<R.length)=true:=decide_eq_true ax;simp only[yj,u3,beq_self_eq_true,cF,decide_true,bU,b4,cG,eR,cond_true,lI,aEd,nN nq]
 have LW:b≠sU:=fun h=>by rw[h,aq] at aj;cases aj
 have xE:∀X L,(M.set b X++L)[sU]? =some (.box v.row):=fun X L=>b6 (by rw[dx LW];exact aq) L;have Ua:∀L,(M++L)[sU]? =some (.box v.row):=fun L=>b6 aq L;have xb:d0 false 4 32 (.slice (T.map bL.row) .full) (.slice [v.row] .full) (M.set b (.arr 4 R ver (max 0 T.length))++[.arr 4 (S.map bL.row) 0 0])=some (.aX (M.length+1) 0 0 (T.length+1),M.set b (.arr 4 R ver (max 0 T.length))++[.arr 4 (S.map bL.row) 0 0,.arr 4 (T.map bL.row++[v.row]) 0 0]):=by
  have ce:fq 4 (T.map bL.row)=true:=u9 (f:=bL.row) (fun _=>rfl) T;have aw:decide ((T.length+1)*(2*32)<=2^48)=true:=decide_eq_true (by omega);have kY:decide (c3.full=c3.nil)=false:=rfl;simp only[d0,eJ,Tk,ce,bL.row,dz,gZ,ev,beq_self_eq_true,cond_true,g3,kY,decide_true,Bool.or_true,eD,aw,eR,dT,eO,eB,List.cons_append,List.nil_append]
 have u2:d0 false 4 32 (.aX (M.length+1) 0 0 (T.length+1)) (.aX M.length 0 0 S.length) (M.set b (.arr 4 R ver (max 0 T.length))++[.arr 4 (S.map bL.row) 0 0,.arr 4 (T.map bL.row++[v.row]) 0 0])=some (.aX (M.length+1) 1 0 (T.length+1+S.length),M.set b (.arr 4 R ver (max 0 T.length))++[.arr 4 (S.map bL.row) 0 0,.arr 4 (T.map bL.row++[v.row]++S.map bL.row) 1 0]):=by
  have aw:decide ((T.length+1+S.length)*(2*32)<=2^48)=true:=decide_eq_true (by omega);have hlen:(M.set b (.arr 4 R ver (max 0 T.length))).length=M.length:=eO;generalize M.set b (.arr 4 R ver (max 0 T.length))=K at hlen⊢;rw[<-hlen];have gm:(K++[a2.arr 4 (S.map bL.row) 0 0,a2.arr 4 (T.map bL.row++[v.row]) 0 0])[K.length]? =some (a2.arr 4 (S.map bL.row) 0 0):=e0 K _;have a6:(K++[a2.arr 4 (S.map bL.row) 0 0,a2.arr 4 (T.map bL.row++[v.row]) 0 0])[K.length+1]? =some (a2.arr 4 (T.map bL.row++[v.row]) 0 0):=iP K _ 1;have ba:∀X,(K++[a2.arr 4 (S.map bL.row) 0 0,a2.arr 4 (T.map bL.row++[v.row]) 0 0]).set (K.length+1) X=K++[a2.arr 4 (S.map bL.row) 0 0,X]:=fun X=>k7 K _ 1 X;simp only[d0,eJ,gm,beq_self_eq_true,ev,eD,cF,decide_true,eR,cond_true,l9,JO,g3,a6,dT,dz,gZ,aw,ba]
 simp only[bL.row] at Ua xE xb u2;simp-implicitDefEqProofs (disch:=omega) only[go_sem,tm,↓br 44,↓br 46,↓br 48,↓br 49,↓br 50,↓br 51,a4,ay,bv,ch,aEF,pa,eF,iT,mS,Ua,xE,xb,u2];refine .inr ⟨M.length+1,1,?_,?_,by simp;omega⟩
 . rw[dT,dz,show T.length+1+S.length=T.length+(S.length+1) by omega]
 . have hlen:(M.set b (.arr 4 R ver (max 0 T.length))).length=M.length:=eO
   rw[<-hlen,iP];simp[bL.row]
theorem aKm{M:Mem}{b ver:Nat}{R:List (List V)}{k:List bL}{v:bL}{sU:Nat}(aj:M[b]? =some (.arr 4 R ver 0))(aq:M[sU]? =some (.box v.row))(ao:k.length<=1000000000000)(ax:0<R.length)(fO:R.take k.length=k.map bL.row)(g4:k.length<=R.length)(s:aH)
 (a4:aY s 0=.aX b ver 0 R.length)(ay:aY s 3=.ptr sU 0)(bv:aY s 5=.int .i64 k.length):
 dv av P9 (pN tm.results (rq fun r ah=>uB ah r (rB v k++v::rO v k))) s M:=by
 have hh:=aKl aj aq ao ax fO g4;have e2:=ND v k;have lV:(rB v k).length+(rO v k).length=k.length:=by rw[<-dT,e2]
 have aGy:∀w∈rB v k,qV w v<0:=fun w hw=>of_decide_eq_true (List.all_eq_true.1 (List.all_takeWhile (p:=fun w=>decide (qV w v<0)) (l:=k)) w hw);have aG4:∀w,(rO v k)[0]? =some w->¬qV w v<0:=fun w hw=>by
  have:=List.head?_dropWhile_not (fun w=>decide (qV w v<0)) k;rw[List.head?_eq_getElem?,show k.dropWhile (fun w=>decide (qV w v<0))=rO v k from rfl,hw] at this;simpa using this
 have iq:∀(i:Nat)(w:bL),k[i]? =some w->R[i]? =some w.row:=fun i w hw=>by
  have hi:=(bn.1 hw).1;rw[<-hs hi,fO,gY,hw];rfl
 have zv:∀i:Nat,i<R.length->jj 4 (.aX b ver 0 R.length) (.int .i64 (i:Int)) M=some (.fo b ver i 0):=fun i hi=>by
  simp only[jj,decide_eq_true (show 0<=(i:Int) by omega),cond_true,aj,beq_self_eq_true,lI,decide_eq_true hi,ev,cF,decide_true,eR]
 have tJ:∀(i:Nat)(w:bL),k[i]? =some w->hn 4 true (.fo b ver i 0) M=some (.agg w.row):=fun i w hw=>by
  simp only[hn,aj,beq_self_eq_true,cond_true,iq i w hw];rfl
 have CJ:=fun w=>XR w v;generalize rB v k=T at*;generalize rO v k=S at*;simp only[bL.row] at tJ aq CJ;simp-implicitDefEqProofs (disch:=omega) only[go_sem,tm,↓br 53,a4,ay,bv];refine gg T.length (fun i vs N=>vs=[.aX b ver 0 R.length,.ptr sU 0,.int .i64 k.length,.int .i64 i]/\N=M) ⟨rfl,rfl⟩ ?_ ?_;rotate_left
 . rintro vs N ⟨rfl,rfl⟩
   simp-implicitDefEqProofs (disch:=omega) only[go_sem];refine a5 (fun g=>?_) (fun g=>?_)
   . obtain⟨w,hw⟩:∃w,k[T.length]? =some w:=⟨k[T.length]'(by omega),by simp⟩
     have aHb:S[0]? =some w:=by rw[<-e2,jX (cF _),mH] at hw;exact hw
     simp-implicitDefEqProofs (disch:=omega) only[go_sem,zv T.length (by omega),tJ _ w hw,aq];first|refine b0 (CJ w) ?_|refine bV (CJ w) ?_
     simp-implicitDefEqProofs (disch:=omega) only[go_sem,decide_eq_false (aG4 w aHb)];exact hh _ rfl rfl rfl rfl
   . simp-implicitDefEqProofs (disch:=omega) only[go_sem]
     exact hh _ rfl rfl rfl rfl
 rintro i vs N hi bf ⟨rfl,rfl⟩;obtain⟨w,hw⟩:∃w,k[i]? =some w:=⟨k[i]'(by omega),by simp⟩;have aHc:w∈T:=dO (show T[i]? =some w by rw[<-e2,gh hi] at hw;exact hw);have aGl:=aGy w aHc;have iU:decide ((i:Int)<(k.length:Int))=true:=decide_eq_true (by omega);simp-implicitDefEqProofs (disch:=omega) only[go_sem,iU,zv i (by omega),tJ i w hw,aq];first|refine b0 (CJ w) ?_|refine bV (CJ w) ?_
 simp-implicitDefEqProofs (disch:=omega) only[go_sem,decide_eq_true aGl];exact c6 hi ⟨rfl,rfl⟩
theorem X5{M:Mem}{x:V}{l:List bL}{v:bL}(h:uB M x l)(ag:l.length<=1000000000000):cj av In [x,.agg v.row] M (fun r ah=>uB ah r (rC l v)):=by
 obtain⟨c,mS⟩:=OP h v;refine hx Sk (by simp[tm]) ?_;have fN:∀(K:Mem)(B:a2),(K++[B])[K.length]? =some B:=fun K B=>by simp
 have jL:∀(K:Mem)(B X:a2),(K++[B]).set K.length X=K++[X]:=fun K B X=>by simp
 have G6:=Vo l c v (by omega);simp only[bL.row] at G6;have xf:=OP (J8 h [.box v.row]) v;simp only[hq];simp only[bL.row] at xf;simp-implicitDefEqProofs (disch:=omega) only[go_sem,tm,bL.row,fN];obtain⟨c,xf⟩:=xf;have G6:=Vo l c v ag;simp only[bL.row] at G6;refine azM G6 xf rfl rfl ?_;simp-implicitDefEqProofs (disch:=omega) only[go_sem];refine cp (fun g=>?_) (fun g=>?_)
 . simp-implicitDefEqProofs (disch:=omega) only[go_sem]
   rw[rC,if_pos g];exact J8 h _
 have zE:rC l v=rB v (lB v l)++v::rO v (lB v l):=by rw[rC,if_neg (by rw[g];simp)]
 rw[zE];rcases h with⟨rfl,rfl⟩|⟨b,ver,rfl,aj,pc⟩
 . have cr:decide (((0:Nat):Int)<((0:Nat):Int))=false:=rfl
   have pa:=fun zero N=>UI zero 4 32 0 N (by omega) (by omega);simp-implicitDefEqProofs (disch:=omega) only[go_sem];refine gg 0 (fun i vs N=>vs=[.slice [] .nil,.ptr M.length 0,.int .i64 0,.slice [] .nil,.int .i64 ((0:Nat):Int),.int .i64 0]/\N=M++[.box v.row]) ⟨rfl,rfl⟩ (fun i _ _ hi=>absurd hi (fb i)) ?_;rintro vs N ⟨rfl,rfl⟩;simp-implicitDefEqProofs (disch:=omega) only[go_sem];refine a5 (fun g=>absurd g (by decide)) (fun g=>?_);refine gg 0 (fun i vs N=>vs=[.slice [] .nil,.ptr M.length 0,.int .i64 0,.int .i64 0]/\N=M++[.box v.row]) ⟨rfl,rfl⟩ (fun i _ _ hi=>absurd hi (fb i)) ?_;rintro vs N ⟨rfl,rfl⟩;simp-implicitDefEqProofs (disch:=omega) only[go_sem];refine a5 (fun g=>absurd g (by decide)) (fun g=>?_);have jy:∀N,yj 4 (.slice [] .nil) (.int .i64 0) (.int .i64 0) N=some (.slice [] .nil,N):=fun N=>rfl;have eF:∀N,g7 4 (.slice [] .nil) (some (.int .i64 0)) (some (.int .i64 0)) none N=some (.slice [] .nil):=fun N=>rfl;have a7:((0:Int) -0)=((0:Nat):Int):=rfl;have iT:uQ 4 (.aX (M.length+1) 0 0 0) (.slice [] .nil) (M++[.box v.row]++[.arr 4 (fV 0 [V.int .i64 0,.int .i64 0,.int .i64 0,.int .i64 0]) 0 0])=some (.int .i64 0,M++[.box v.row]++[.arr 4 [] 0 0]):=by
    simp[uQ,eJ,fq,oo]
   have xb:d0 false 4 32 (.slice [] .nil) (.slice [v.row] .full) (M++[.box v.row]++[.arr 4 [] 0 0])=some (.aX (M.length+2) 0 0 1,M++[.box v.row]++[.arr 4 [] 0 0]++[.arr 4 [v.row] 0 0]):=by
    simp[d0,eJ,fq,g3,bL.row]
   have u2:d0 false 4 32 (.aX (M.length+2) 0 0 1) (.aX (M.length+1) 0 0 0) (M++[.box v.row]++[.arr 4 [] 0 0]++[.arr 4 [v.row] 0 0])=some (.aX (M.length+2) 1 0 1,M++[.box v.row]++[.arr 4 [] 0 0]++[.arr 4 [v.row] 1 0]):=by
    have a6:(M++[a2.box v.row]++[a2.arr 4 [] 0 0]++[a2.arr 4 [v.row] 0 0])[M.length+1]? =some (a2.arr 4 [] 0 0):=by rw[eB,eB,iP];rfl
    have ba:(M++[a2.box v.row]++[a2.arr 4 [] 0 0]++[a2.arr 4 [v.row] 0 0])[M.length+2]? =some (a2.arr 4 [v.row] 0 0):=by rw[eB,eB,iP];rfl
    have e3:∀X,(M++[a2.box v.row]++[a2.arr 4 [] 0 0]++[a2.arr 4 [v.row] 0 0]).set (M.length+2) X=M++[a2.box v.row]++[a2.arr 4 [] 0 0]++[X]:=fun X=>by rw[eB,eB,k7,eB,eB];rfl
    simp only[d0,eJ,a6,g3,ba,e3];rfl
   have xE:∀L,(M++[.box v.row]++L)[M.length]? =some (.box v.row):=fun L=>by rw[eB,e0];rfl
   simp only[bL.row] at iT xb u2 xE;simp-implicitDefEqProofs (disch:=omega) only[go_sem,↓br 44,↓br 46,↓br 48,↓br 49,↓br 50,↓br 51,bL.row,a7,pa,jy,eF,iT,xE,xb,u2];refine .inr ⟨M.length+2,1,rfl,?_,Nat.zero_lt_one⟩;rw[eB,eB,iP];rfl
 have nq:b<M.length:=(bn.1 aj).1;have u3:=fun L=>b6 aj L;simp-implicitDefEqProofs (disch:=omega) only[go_sem,u3];refine ek l (fun i vs N=>∃X:List bL,vs=[.aX b ver 0 l.length,.ptr M.length 0,.int .i64 (lB v (l.take i)).length,.aX b ver 0 l.length,.int .i64 l.length,.int .i64 i]/\N[b]? =some (.arr 4 (X.map bL.row) ver 0)/\N[M.length]? =some (.box v.row)/\X.length=l.length/\X.take (lB v (l.take i)).length=lB v (l.take i)/\X.drop i=l.drop i)
  ⟨l,rfl,u3 _,by rw[e0];rfl,rfl,rfl,rfl⟩ ?_ ?_;rotate_left
 . rintro vs N ⟨X,rfl,db,zj,tv,CF,_⟩
   rw[g0] at CF;simp-implicitDefEqProofs (disch:=omega) only[go_sem,dg];rw[g0];have g4:=NH v l;exact aKm db zj (by omega) (by rw[eD];omega) (by rw[<-List.map_take,CF]) (by rw[eD];omega) _ (by rw[eD,tv];rfl) rfl rfl
 rintro i w vs N hw hi bf ⟨X,rfl,db,zj,tv,CF,S5⟩;have S9:X[i]? =some w:=by
  have:=congrArg (·[0]?) S5;simpa[hw] using this
 have aEf:(X.map bL.row)[i]? =some w.row:=by rw[gY,S9];rfl
 have aOa:b<N.length:=(bn.1 db).1;have aOb:M.length<N.length:=(bn.1 zj).1;have q2:=fun L=>b6 db L;have LJ:=fun L=>b6 zj L;have hU:decide (i<l.length)=true:=decide_eq_true (by omega);have g4:(lB v (l.take i)).length<=i:=jH (NH _ _) (by rw[iw];omega);have rg:lB v (l.take (i+1))=lB v (l.take i)++if Aa v w=true then[] else[w]:=by
  rw[hR,hw,lB,List.filter_append];cases h:Aa v w<;>simp[lB,h]
 have S8:X.drop (i+1)=l.drop (i+1):=by rw[<-List.drop_drop (i:=1) (j:=i),S5,List.drop_drop]
 have L6:=aJT v w;simp only[bL.row] at L6 LJ zj;simp only[gY] at aEf;simp-implicitDefEqProofs (disch:=omega) only[go_sem,bf,db,LJ,S9,fN,jL,tv,hU,bL.row];first|refine b0 (L6) ?_|refine bV (L6) ?_
 simp-implicitDefEqProofs (disch:=omega) only[go_sem];refine cp (fun af=>?_) (fun af=>?_)
 . rw[if_pos af,fU] at rg
   simp-implicitDefEqProofs (disch:=omega) only[go_sem];exact c6 hi ⟨X,by rw[rg];rfl,b6 db _,b6 zj _,tv,by rw[rg];exact CF,S8⟩
 rw[if_neg (by rw[af];simp)] at rg;have aES:decide ((lB v (l.take i)).length<l.length)=true:=decide_eq_true (by omega);obtain⟨y,aD⟩:∃y,X[(lB v (l.take i)).length]? =some y:=⟨X[(lB v (l.take i)).length]'(by omega),by simp⟩;simp-implicitDefEqProofs (disch:=omega) only[go_sem,q2,fN,tv,aES,aD,bL.row];have aFV:(lB v (l.take i)).length<X.length:=by omega
 refine c6 hi ⟨X.set (lB v (l.take i)).length w,by rw[rg,dT];rfl,?_,?_,by rw[eO];exact tv,?_,?_⟩
 . rw[eC (by rw[dT];omega),List.map_set];rfl
 . rw[dx (by omega)];exact LJ _
 . rw[rg,dT,List.length_singleton,hR,eC aFV,List.take_set,List.set_eq_of_length_le (by rw[iw];omega),CF];rfl
 . rw[List.drop_set_of_lt (by omega)];exact S8
theorem aKk(l:List bL)(v:bL):(rC l v).length<=l.length+1:=by
 unfold rC;split
 . omega
 . have U:=congrArg List.length (ND v (lB v l))
   rw[dT] at U;have af:=NH v l;rw[dT,dz];omega
theorem aDF(l:List bL)(v:bL):mQ (l++[v])=rC (mQ l) v:=by simp[mQ,List.foldl_append]
theorem Lu:∀l:List bL,(mQ l).length<=l.length:=fun l=>by
 have:∀(l a:List bL),(l.foldl rC a).length<=a.length+l.length:=fun l=>by
  induction l with
  |nil=>exact fun a=>by simp
  |cons v l bq=>
   intro a;have U:=bq (rC a v);have af:=aKk a v;simp only[List.foldl_cons,dz];omega
 simpa[mQ] using this l []
def KL:List bL->c3
 |[]=>.nil
 |_::_=>.cv
theorem X3(l:List bL)(c:c3)(ag:l.length<=1000000000000):bQ av Il [.slice (l.map bL.row) c] (fun x=>x=.slice ((mQ l).map bL.row) (KL (mQ l))):=by
 have fN:∀(K:Mem)(B:a2),(K++[B])[K.length]? =some B:=fun K B=>by simp
 have jL:∀(K:Mem)(B X:a2),(K++[B]).set K.length X=K++[X]:=fun K B X=>by simp
 refine bZ Si (by simp[Cb]) ?_;simp-implicitDefEqProofs (disch:=omega) only[go_sem,Cb];refine ek l (fun i vs N=>∃x,vs=[x,.slice (l.map bL.row) c,.int .i64 l.length,.int .i64 i]/\uB N x (mQ (l.take i))) ⟨_,rfl,.inl ⟨rfl,rfl⟩⟩ ?_ ?_;rotate_left
 . rintro vs N ⟨x,rfl,h⟩
   rw[g0] at h;generalize mQ l=f at h⊢;simp-implicitDefEqProofs (disch:=omega) only[go_sem,dg];rcases h with⟨rfl,rfl⟩|⟨b,ver,rfl,aj,ax⟩
   . simp-implicitDefEqProofs (disch:=omega) only[go_sem,↓br 24]
     rfl
   . have h7:decide (b<0)=false:=decide_eq_false (fb _)
     have aT:(f.map bL.row).take f.length=f.map bL.row:=g1 (by simp);have ar:KL f=.cv:=by cases f with
      |nil=>cases ax
      |cons _ _=>rfl
     simp-implicitDefEqProofs (disch:=omega) only[go_sem,↓br 24,aj,h7,aT,ar]
 rintro i v vs N aq hi bf ⟨x,rfl,h⟩;have aT:mQ (l.take (i+1))=rC (mQ (l.take i)) v:=by rw[hR,aq];exact aDF _ _
 have gS:=Lu (l.take i);rw[iw] at gS;have ax:=X5 (v:=v) (J8 h [.box v.row]) (by omega);simp only[bL.row] at ax;simp-implicitDefEqProofs (disch:=omega) only[go_sem,bf,aq,fN,jL,bL.row];refine ew ax ?_;intro r ah al;simp-implicitDefEqProofs (disch:=omega) only[go_sem];exact c6 hi ⟨r,rfl,by rw[aT];exact al⟩
end Go.aQ.C
namespace Go.aQ.C
open Go.aQ
structure c7 where
 aZ:List ca
 lc:c3
 cost:nX
 Ek:List bK
 Ej:c3
def c7.row(o:c7):List V:=[.slice (o.aZ.map ca.row) o.lc,.int .i64 o.cost.cB,.int .i64 o.cost.c_,.int .i64 o.cost.b1,.int .i64 o.cost.tj,.int .i64 o.cost.walk,.slice (o.Ek.map bK.row) o.Ej]
def jG(c:nX):bL:=⟨c.c_,c.b1,c.tj,c.walk⟩
theorem aad(q:Query)(c:nX)(aG:q.back=false):bQ av HZ [.agg q.row,.agg c.row] (fun v=>v=.agg (jG c).row):=by
 refine bZ R9 (by simp[BW]) ?_;simp-implicitDefEqProofs (disch:=omega) only[go_sem,BW,Query.row,nX.row,aG,jG,bL.row]
def qm(l:List c7)(v:bL):List c7:=(l.find? fun o=>decide (jG o.cost=v)).toList
def mf(l:List c7)(n:Nat):List c7:=((mQ (l.map fun o=>jG o.cost)).take n).flatMap (qm l)
def r8(l:List c7):List c7:=(mQ (l.map fun o=>jG o.cost)).flatMap (qm l)
theorem Vv(l:List c7)(v:bL):(qm l v).length<=1:=by
 unfold qm;cases l.find? _<;>simp
theorem Rv{α β:Type}(g:α->List β)(h:∀x,(g x).length<=1)(l:List α):(l.flatMap g).length<=l.length:=by
 induction l with
 |nil=>simp
 |cons x l bq=>have:=h x;simp only[List.flatMap_cons,dT,dz];omega
theorem aBQ{α:Type}{l:List α}{p:α->Bool}{i:Nat}{o:α}(h:l[i]? =some o)(aK:(l.take i).find? p=none)(ax:p o=true):l.find? p=some o:=by
 rw[<-List.take_append_drop i l,List.find?_append,aK,uT h,List.find?_cons_of_pos ax];rfl
theorem aAe(q:Query)(l:List c7)(c:c3)(aG:q.back=false)(ag:l.length<=1000000000000):bQ av Is [.agg q.row,.slice (l.map c7.row) c] (fun v=>v=.slice ((r8 l).map c7.row) .cv):=by
 refine bZ St (by simp[Cl]) ?_;simp-implicitDefEqProofs (disch:=omega) only[go_sem,Cl,Query.row];refine ek l (fun i vs N=>∃ver,vs=[.slice (l.map c7.row) c,.ptr 0 0,.aX 1 ver 0 i,.slice (l.map c7.row) c,.int .i64 l.length,.int .i64 i]/\N=[.box q.row,.arr 4 ((l.take i).map fun o=>(jG o.cost).row) ver 0]) ⟨0,rfl,rfl⟩ ?_ ?_
 . rintro i o vs N az hi bf ⟨ver,rfl,rfl⟩
   have aq:=aad q o.cost aG;have zH:((l.take i).map fun o=>(jG o.cost).row).length=i:=by simp;omega
   have aT:((l.take i).map fun o=>(jG o.cost).row)++[(jG o.cost).row]=(l.take (i+1)).map fun o=>(jG o.cost).row:=by rw[hR,az];simp
   have iS:∀(a d:a2)(R:List (List V))(v:bL),R.length=i->d0 false 4 32 (.aX 1 ver 0 i) (.slice [[.int .i64 v.a,.int .i64 v.b,.int .i64 v.c,.int .i64 v.d]] .full) [a,.arr 4 R ver 0,d]=
    some (.aX 1 (ver+1) 0 (i+1),[a,.arr 4 (R++[v.row]) (ver+1) 0,d]):=fun a d R v fO=>s7 rfl fO rfl (by omega);have iS:=fun a d=>iS a d _ (jG o.cost) zH;simp only[Query.row,nX.row,bL.row] at aq;generalize((l.take i).map fun o=>(jG o.cost).row)=R at aT zH iS⊢;simp-implicitDefEqProofs (disch:=omega) only[go_sem,bf,az,c7.row,Query.row];first|refine b0 (aq) ?_|refine bV (aq) ?_
   simp-implicitDefEqProofs (disch:=omega) only[go_sem,iS,aT];exact dC hi rfl ⟨ver+1,rfl,rfl⟩
 rintro vs N ⟨ver,rfl,rfl⟩;rw[g0];simp-implicitDefEqProofs (disch:=omega) only[go_sem,dg];have De:(l.map fun o=>(jG o.cost).row)=(l.map fun o=>jG o.cost).map bL.row:=by rw[List.map_map];rfl
 have j_:(l.map fun o=>jG o.cost).length=l.length:=eD _;have Ud:∀(i:Nat)(o:c7),l[i]? =some o->((l.map fun o=>jG o.cost).map bL.row)[i]? =some (jG o.cost).row:=fun i o h=>by rw[gY,gY,h];rfl
 rw[De];have q7:∀n,mf l n=((mQ (l.map fun o=>jG o.cost)).take n).flatMap (qm l):=fun n=>rfl;have xf:r8 l=(mQ (l.map fun o=>jG o.cost)).flatMap (qm l):=rfl;have gS:=Lu (l.map fun o=>jG o.cost);have tE:=X3 (l.map fun o=>jG o.cost) .cv (by rw[j_];exact ag);rw[j_] at gS;generalize mQ (l.map fun o=>jG o.cost)=cl at q7 xf gS tE;generalize(l.map fun o=>jG o.cost)=wx at j_ Ud tE⊢;generalize KL cl=Qt at tE;obtain⟨fz,aGc⟩:∃fz,oj (.aX 1 ver 0 l.length) [.box q.row,.arr 4 (wx.map bL.row) ver 0,.arr 7 [] 0 0]=some (.slice (wx.map bL.row) .cv,[.box q.row,.arr 4 (wx.map bL.row) ver fz,.arr 7 [] 0 0]):=by
  rw[<-j_];cases wx with
  |nil=>exact⟨0,by simp[oj]⟩
  |cons x xs=>exact⟨max 0 (xs.length+1),by simp[oj,JO]⟩
 simp-implicitDefEqProofs (disch:=omega) only[go_sem,↓br 26,aGc];first|refine b0 (tE) ?_|refine bV (tE) ?_
 simp-implicitDefEqProofs (disch:=omega) only[go_sem];refine ek cl (fun j vs N=>∃iH,vs=[.slice (l.map c7.row) c,.aX 1 ver 0 l.length,.aX 2 iH 0 (mf l j).length,.slice (cl.map bL.row) Qt,.int .i64 cl.length,.int .i64 j]/\N=[.box q.row,.arr 4 (wx.map bL.row) ver fz,.arr 7 ((mf l j).map c7.row) iH 0]) ⟨0,by simp[q7,dt,aY],by simp[q7]⟩ ?_ ?_;rotate_left
 . rintro vs N ⟨iH,rfl,rfl⟩
   have e:mf l cl.length=r8 l:=by rw[q7,xf,g0]
   rw[e];have aT:((r8 l).map c7.row).take (r8 l).length=(r8 l).map c7.row:=g1 (by simp);simp-implicitDefEqProofs (disch:=omega) only[go_sem,↓br 65,dg,aT]
 rintro j v vs N aq ap mn ⟨iH,rfl,rfl⟩;have de:(mf l j).length<=j:=by
  rw[q7];exact jH (Rv _ (Vv l) _) (by rw[iw];omega)
 have zn:mf l (j+1)=mf l j++qm l v:=by rw[q7,q7,hR,aq];simp
 simp-implicitDefEqProofs (disch:=omega) only[go_sem,mn,aq,bL.row];refine ek l (fun i vs N=>(l.take i).find? (fun o=>decide (jG o.cost=v))=none/\vs=[.slice (l.map c7.row) c,.aX 1 ver 0 l.length,.aX 2 iH 0 (mf l j).length,.ptr 3 0,.slice (cl.map bL.row) Qt,.int .i64 cl.length,.int .i64 j,.slice (l.map c7.row) c,.int .i64 l.length,.int .i64 i]/\
  N=[.box q.row,.arr 4 (wx.map bL.row) ver fz,.arr 7 ((mf l j).map c7.row) iH 0,.box v.row]) ⟨rfl,rfl,rfl⟩ ?_ ?_;rotate_left
 . rintro vs N ⟨aK,rfl,rfl⟩
   rw[g0] at aK;have ax:qm l v=[]:=by rw[qm,aK];rfl
   rw[ax,fU] at zn;simp-implicitDefEqProofs (disch:=omega) only[go_sem,dg];exact dC ap rfl ⟨iH,by rw[zn];rfl,by rw[zn];rfl⟩
 rintro i o vs N az hi bf ⟨aK,rfl,rfl⟩;have zC:=Ud i o az;simp only[bL.row] at zC;have hU:decide (i<l.length)=true:=decide_eq_true hi;have aEV:decide (l.length<=wx.length)=true:=decide_eq_true (by omega);simp-implicitDefEqProofs (disch:=omega) only[go_sem,bf,az,c7.row,bL.row,zC,hU,aEV];rw[Oo];refine a5 (fun g=>?_) (fun g=>?_)
 . have ax:qm l v=[o]:=by rw[qm,aBQ az aK (decide_eq_true g)];rfl
   rw[ax] at zn;have iS:∀(a b d e:a2),d0 false 7 88 (.aX 2 iH 0 (mf l j).length) (.slice [o.row] .full) [a,b,.arr 7 ((mf l j).map c7.row) iH 0,d,e]=
    some (.aX 2 (iH+1) 0 ((mf l j).length+1),[a,b,.arr 7 ((mf l j).map c7.row++[o.row]) (iH+1) 0,d,e]):=fun a b d e=>s7 rfl (by simp) rfl (by omega);have hm:((mf l j).map c7.row++[o.row])=(mf l (j+1)).map c7.row:=by rw[zn,List.map_append];rfl
   have p2:(mf l j).length+1=(mf l (j+1)).length:=by rw[zn,dT];rfl
   rw[hm,p2] at iS;simp only[c7.row] at iS;simp-implicitDefEqProofs (disch:=omega) only[go_sem,iS];exact dC ap rfl ⟨iH+1,rfl,rfl⟩
 . simp-implicitDefEqProofs (disch:=omega) only[go_sem]
   refine dC hi rfl ⟨?_,rfl,rfl⟩;rw[hR,az,List.find?_append,aK];simp[g]
end Go.aQ.C
namespace Go.aQ.C
open Go.aQ
theorem xW{M:Mem}{a sz ver fz i:Nat}{R:List (List V)}{r:List V}(bb:M[a]? =some (.arr sz R ver fz))(hi:R[i]? =some r)(al:r.length=sz):hn sz true (.fo a ver i 0) M=some (.agg r):=by
 have aw:decide (0+sz<=r.length)=true:=decide_eq_true (by omega);simp only[hn,bb,beq_self_eq_true,cond_true,hi,iC,aw,l9,g1 (Nat.le_of_eq al)]
theorem tU{M:Mem}{a sz ver fz i n:Nat}{R:List (List V)}(bb:M[a]? =some (.arr sz R ver fz))(hi:i<n)(aK:n<=R.length):jj sz (.aX a ver 0 n) (.int .i64 (i:Int)) M=some (.fo a ver i 0):=by
 have U:decide (0<=(i:Int))=true:=decide_eq_true (by omega);have af:decide (n<=R.length)=true:=decide_eq_true aK;simp only[jj,U,cond_true,bb,beq_self_eq_true,lI,decide_eq_true hi,ev,af,eR]
theorem DS{M:Mem}{a sz ver fz n:Nat}{R:List (List V)}(bb:M[a]? =some (.arr sz R ver fz)):i0 (.aX a ver 0 n) M=some (.int .i64 n):=by
 simp only[i0,bb,beq_self_eq_true,cond_true]
structure Place where
 kind:Int
 stop:Int
 run:Int
 cM:Int
 cR:a1
def Place.row(p:Place):List V:=[.int .i64 p.kind,.int .i64 p.stop,.int .i64 p.run,.int .i64 p.cM,.int .i64 p.cR.cB,.int .i64 p.cR.c_,.int .i64 p.cR.gb,.int .i64 p.cR.eP]
structure aI where
 place:Place
 time:Int
 b1:Int
 walk:Int
 base:List a1
 aZ:List ca
 tag:c3
def aI.row(f:bd)(l:aI):List V:=[.int .i64 l.place.kind,.int .i64 l.place.stop,.int .i64 l.place.run,.int .i64 l.place.cM,.int .i64 l.place.cR.cB,.int .i64 l.place.cR.c_,.int .i64 l.place.cR.gb,.int .i64 l.place.cR.eP,
 .int .i64 l.time,.int .i64 l.b1,.int .i64 l.walk,f7 f l.base,.slice (l.aZ.map ca.row) l.tag]
theorem Lt(f:bd)(rl:List a1):(f7 f rl).iA=true/\(f7 f rl).kd=true:=by cases rl<;>exact⟨rfl,rfl⟩
theorem aI.len(f:bd)(l:aI):(l.row f).length=13:=rfl
theorem aI.cell(f:bd)(l:aI):nk (l.row f)=true:=by simp only[aI.row,nk,(Lt f l.base).1];rfl
theorem aI.pure(f:bd)(l:aI):hy (l.row f)=true:=by simp only[aI.row,hy,(Lt f l.base).2];rfl
theorem aI.under(f:bd)(l:aI)(n:Nat):cS n (l.row f)=true:=by simp only[aI.row,cS,GO];rfl
theorem aaN(a b:List V):nk (a++b)=(nk a&&nk b):=by induction a with
 |nil=>simp[nk]
 |cons x a bq=>simp[nk,bq,Bool.and_assoc]
theorem aaP(a b:List V):hy (a++b)=(hy a&&hy b):=by induction a with
 |nil=>simp[hy]
 |cons x a bq=>simp[hy,bq,Bool.and_assoc]
def dZ(f:bd)(x:aI×Int):List V:=x.1.row f++[.int .i64 x.2]
theorem py(f:bd)(x:aI×Int):(dZ f x).length=14:=rfl
theorem V1(f:bd)(x:aI×Int):nk (dZ f x)=true:=by rw[dZ,aaN,aI.cell];rfl
theorem NR(f:bd)(x:aI×Int):hy (dZ f x)=true:=by rw[dZ,aaP,aI.pure];rfl
theorem NF(f:bd)(x:aI×Int):gU [.int .i64 0,.int .i64 0,.int .i64 0,.int .i64 0,.int .i64 0,.int .i64 0,.int .i64 0,.int .i64 0,.int .i64 0,.int .i64 0,.int .i64 0,.dm,.slice [] .nil,.int .i64 0] 0 (dZ f x)=dZ f x:=rfl
theorem Aq(f:bd)(l:aI):gU [.int .i64 0,.int .i64 0,.int .i64 0,.int .i64 0,.int .i64 0,.int .i64 0,.int .i64 0,.int .i64 0,.int .i64 0,.int .i64 0,.int .i64 0,.dm,.slice [] .nil] 0 (l.row f)=l.row f:=rfl
structure gE(f:bd)(M:Mem)(h a ver:Nat)(c:Int)(l:List (aI×Int))(b3:List (List V)):Prop where
 h:M[h]? =some (.box [.dH kb [],.aX a ver 0 l.length,.int .i64 c])
 a:M[a]? =some (.arr 14 (l.map (dZ f)++b3) ver 0)
theorem gE.app{f:bd}{M:Mem}{h a ver:Nat}{c:Int}{l:List (aI×Int)}{b3:List (List V)}(H:gE f M h a ver c l b3)(L:Mem):gE f (M++L) h a ver c l b3:=⟨b6 H.h L,b6 H.a L⟩
theorem gE.ne{f:bd}{M:Mem}{h a ver:Nat}{c:Int}{l:List (aI×Int)}{b3:List (List V)}(H:gE f M h a ver c l b3):h≠a:=fun e=>by
 have U:=H.h;rw[e,H.a] at U;cases U
theorem gE.set{f:bd}{M:Mem}{h a ver:Nat}{c:Int}{l l':List (aI×Int)}{b3:List (List V)}(H:gE f M h a ver c l b3)(ag:l'.length=l.length):gE f (M.set a (.arr 14 (l'.map (dZ f)++b3) ver 0)) h a ver c l' b3:=
 ⟨by rw[dx H.ne.symm,ag];exact H.h,eC (bn.1 H.a).1⟩
theorem Uz(f:bd)(a b:aI):bQ av kb [.agg (a.row f),.agg (b.row f)] (fun v=>v=.bool (decide (a.time<b.time))):=by
 refine bZ Sq (by simp[Cj]) ?_;simp-implicitDefEqProofs (disch:=omega) only[go_sem,Cj,aI.len];have ch:∀l:aI,(l.row f)[8]? =some (.int .i64 l.time):=fun _=>rfl;simp-implicitDefEqProofs (disch:=omega) only[go_sem,ch]
theorem Kz{f:bd}{M:Mem}{h a ver:Nat}{c:Int}{l:List (aI×Int)}{b3:List (List V)}(H:gE f M h a ver c l b3){i k:Nat}(hi:i<l.length)(ao:k<l.length):
 cj av zR [.ptr h 0,.int .i64 i,.int .i64 k] M (fun v ah=>AT v/\∃G,ah=M++G):=by
 have tv:(l.map (dZ f)++b3).length=l.length+b3.length:=by simp
 obtain⟨x,ab⟩:∃x,l[i]? =some x:=⟨l[i],by simp⟩;obtain⟨y,aD⟩:∃y,l[k]? =some y:=⟨l[k],by simp⟩;have pj:(l.map (dZ f)++b3)[i]? =some (dZ f x):=by rw[gh (by simpa using hi),gY,ab];rfl
 have p6:(l.map (dZ f)++b3)[k]? =some (dZ f y):=by rw[gh (by simpa using ao),gY,aD];rfl
 have Ep:=fun L=>tU (b6 H.a L) hi (by omega);have Er:=fun L=>tU (b6 H.a L) ao (by omega);have li:=fun L=>xW (b6 H.a L) pj (py f x);have DT:=fun L=>xW (b6 H.a L) p6 (py f y);have aNC:=tU H.a hi (by omega);have aND:=tU H.a ao (by omega);have aIm:=xW H.a pj (py f x);have aIr:=xW H.a p6 (py f y);have a4:=fun L=>b6 H.h L;have ce:=H.h;have q0:=fun L=>e0 M L;have aW:=fun L=>iP M L;have s0:=fun L=>kg M L;have s1:=fun L=>k7 M L;refine hx RZ (by simp[BO]) ?_;simp only[hq];have JL:∀x:aI×Int,(dZ f x).take 13=x.1.row f:=fun x=>rfl;have aDL:∀x:aI×Int,(dZ f x)[13]? =some (.int .i64 x.2):=fun x=>rfl;have hu:∀a b:aI,cS 0 [.agg (a.row f),.agg (b.row f)]=true:=fun a b=>by simp only[cS,V.under,aI.under];rfl
 simp-implicitDefEqProofs (disch:=omega) only[go_sem,BO,eX,ce,a4,Ep,Er,li,DT,aNC,aND,aIm,aIr,q0,aW,s0,s1,py,V1,NF,JL,eB];refine fI (Uz f x.1 y.1) ?_ (hu _ _);rintro v rfl;simp-implicitDefEqProofs (disch:=omega) only[go_sem];refine a5 (fun U=>?_) (fun U=>?_)
 . simp-implicitDefEqProofs (disch:=omega) only[go_sem]
   exact⟨⟨_,rfl⟩,_,rfl⟩
 simp-implicitDefEqProofs (disch:=omega) only[go_sem,eX,a4,q0,aW,py,JL];refine fI (Uz f y.1 x.1) ?_ (hu _ _);rintro v rfl;simp-implicitDefEqProofs (disch:=omega) only[go_sem];refine a5 (fun U=>?_) (fun U=>?_)
 . simp-implicitDefEqProofs (disch:=omega) only[go_sem]
   exact⟨⟨_,rfl⟩,_,rfl⟩
 simp-implicitDefEqProofs (disch:=omega) only[go_sem,q0,aW,aDL];exact⟨⟨_,rfl⟩,_,rfl⟩
theorem Od{f:bd}{M:Mem}{h a ver:Nat}{c:Int}{l:List (aI×Int)}{b3:List (List V)}(H:gE f M h a ver c l b3){i k:Nat}{x y:aI×Int}(hi:l[i]? =some x)(ao:l[k]? =some y):
 cj av zS [.ptr h 0,.int .i64 i,.int .i64 k] M (fun v ah=>v=.tuple []/\ah=M.set a (.arr 14 (((l.set i y).set k x).map (dZ f)++b3) ver 0)):=by
 have kZ:=(bn.1 hi).1;have g4:=(bn.1 ao).1;have tv:(l.map (dZ f)++b3).length=l.length+b3.length:=by simp
 have pj:(l.map (dZ f)++b3)[i]? =some (dZ f x):=by rw[gh (by simpa using kZ),gY,hi];rfl
 have p6:(l.map (dZ f)++b3)[k]? =some (dZ f y):=by rw[gh (by simpa using g4),gY,ao];rfl
 have xp:∀(l:List (aI×Int))(i:Nat)(z:aI×Int),i<l.length->(l.map (dZ f)++b3).set i (dZ f z)=(l.set i z).map (dZ f)++b3:=fun l i z hi=>by
  rw[List.set_append,if_pos (by simpa using hi),List.map_set]
 have H1:=H.set (l':=l.set i y) (eO);obtain⟨z,a7⟩:∃z,(l.set i y)[k]? =some z:=⟨(l.set i y)[k]'(by rw[eO];exact g4),by simp⟩;have aGO:((l.set i y).map (dZ f)++b3)[k]? =some (dZ f z):=by rw[gh (by simpa using g4),gY,a7];rfl
 have Ep:=tU H.a kZ (by omega);have Er:=tU H.a g4 (by omega);have li:=xW H.a pj (py f x);have DT:=xW H.a p6 (py f y);have JZ:=tU H1.a g4 (by simp);have ce:=H.h;refine hx R1 (by simp[BQ]) ?_;simp only[hq];have D8:∀x y:aI×Int,gU (dZ f x) 0 (dZ f y)=dZ f y:=fun _ _=>rfl;have jA:=xp l i y kZ;have k2:=xp (l.set i y) k x (by rw[eO];exact g4);have bU:=H.a;have b4:=H1.a;have aL4:∀X Y,(M.set a X).set a Y=M.set a Y:=fun X Y=>List.set_set ..;simp-implicitDefEqProofs (disch:=omega) only[go_sem,BQ,eX,ce,Ep,Er,li,DT,JZ,py,V1,NR,D8,pj,aGO,jA,k2,bU,b4,aL4]
end Go.aQ.C
namespace Go.aQ.C
open Go.aQ
theorem Oc{α:Type}{l:List α}{i k:Nat}{x y:α}(hi:l[i]? =some x)(ao:l[k]? =some y):((l.set i y).set k x).Perm l:=by
 obtain⟨U,rfl⟩:=bn.1 hi;obtain⟨af,rfl⟩:=bn.1 ao;exact List.set_set_perm U af
def kj(f:bd)(M:Mem)(a ver:Nat)(b3:List (List V))(l:List (aI×Int))(G:Mem):Mem:=M.set a (.arr 14 (l.map (dZ f)++b3) ver 0)++G
theorem gE.qp{f:bd}{M:Mem}{h a ver:Nat}{c:Int}{l l':List (aI×Int)}{b3:List (List V)}(H:gE f M h a ver c l b3)(ag:l'.length=l.length)(G:Mem):gE f (kj f M a ver b3 l' G) h a ver c l' b3:=(H.set ag).app G
theorem O3{f:bd}{M:Mem}{a ver:Nat}{b3:List (List V)}(bk:a<M.length)(l l':List (aI×Int))(G:Mem):(kj f M a ver b3 l G).set a (.arr 14 (l'.map (dZ f)++b3) ver 0)=kj f M a ver b3 l' G:=by
 rw[kj,nN (by rw[eO];exact bk),List.set_set];rfl
theorem Kj(f:bd)(M:Mem)(a ver:Nat)(b3:List (List V))(l:List (aI×Int))(G K:Mem):kj f M a ver b3 l G++K=kj f M a ver b3 l (G++K):=by rw[kj,kj,eB]
theorem O4{f:bd}{M:Mem}{h a ver:Nat}{c:Int}{l:List (aI×Int)}{b3:List (List V)}(H:gE f M h a ver c l b3):kj f M a ver b3 l []=M:=by
 rw[kj,fU];obtain⟨U,af⟩:=bn.1 H.a;rw[<-af,List.set_getElem_self]
theorem N4{f:bd}{M:Mem}{h a ver:Nat}{c:Int}{l l':List (aI×Int)}{b3:List (List V)}(H:gE f M h a ver c l b3)(ag:l'.length=l.length)(G:Mem)(Q:Exit->aH->Mem->Prop)(s:aH){i k:Nat}(hi:i<l.length)(ao:k<l.length)
 (a4:aY s 0=.ptr h 0)(af:aY s 2=.int .i64 i)(ay:aY s 3=.int .i64 k)(aGJ:∀s oL,Q .ret s (kj f M a ver b3 l' oL))(mV:∀po oL,po.Perm l'->Q .normal [(0,.ptr h 0),(2,.int .i64 k)] (kj f M a ver b3 po oL)):
 dv av P6 Q s (kj f M a ver b3 l' G):=by
 have kq:a<M.length:=(bn.1 H.a).1;have fX:=H.qp ag G;simp-implicitDefEqProofs (disch:=omega) only[go_sem,↓br 11,↓br 17,a4,af,ay];refine ew (Kz fX (by omega) (by omega)) ?_;rintro v _ ⟨⟨b,rfl⟩,oL,rfl⟩;rw[Kj];simp-implicitDefEqProofs (disch:=omega) only[go_sem,a4,af,ay];refine cp (fun g=>?_) (fun g=>?_);rotate_left
 . simp-implicitDefEqProofs (disch:=omega) only[go_sem]
   exact aGJ _ _
 obtain⟨x,ab⟩:∃x,l'[i]? =some x:=⟨l'[i]'(by omega),by simp⟩;obtain⟨y,aD⟩:∃y,l'[k]? =some y:=⟨l'[k]'(by omega),by simp⟩;have h2:=H.qp ag (G++oL);simp-implicitDefEqProofs (disch:=omega) only[go_sem,↓br 13,↓br 16,a4,af,ay];refine ew (Od h2 ab aD) ?_;rintro v _ ⟨rfl,rfl⟩;rw[O3 kq];simp-implicitDefEqProofs (disch:=omega) only[go_sem,↓br 15,a4,af,ay];exact mV _ _ (Oc ab aD)
theorem aLM{f:bd}{M:Mem}{h a ver:Nat}{c:Int}{l:List (aI×Int)}{b3:List (List V)}(H:gE f M h a ver c l b3)(aj:l.length<=1000000000000):
 cj av HV [.ptr h 0] M (fun v ah=>v=.tuple []/\∃l' G,ah=kj f M a ver b3 l' G/\l'.Perm l):=by
 have kq:a<M.length:=(bn.1 H.a).1;refine hx R0 (by simp[BP]) ?_;simp only[hq];simp-implicitDefEqProofs (disch:=omega) only[go_sem,BP];refine oC (fun m vs N=>∃(i:Nat)(l':List (aI×Int))(G:Mem),m=l.length -i/\vs=[.ptr h 0,.int .i64 i]/\N=kj f M a ver b3 l' G/\l'.Perm l/\i<=l.length) l.length
  ⟨0,l,[],rfl,rfl,(O4 H).symm,.refl _,fG _⟩ ?_;rintro m vs N ⟨i,l',G,rfl,rfl,rfl,ax,kZ⟩;have ei:=ax.length_eq;have fX:=H.qp ei G;have a6:(2*(i:Int)+1)=((2*i+1:Nat):Int):=by omega
 have ba:(((2*i+1:Nat):Int)+1)=((2*i+2:Nat):Int):=by omega
 have ce:=fun K=>b6 fX.h K;have vd:=fX.h;have aOK:=fun n K=>DS (n:=n) (b6 fX.a K);have UC:=fun n=>DS (n:=n) fX.a;simp-implicitDefEqProofs (disch:=omega) only[go_sem,eX,vd,UC,a6,ei];refine a5 (fun aW=>?_) (fun aW=>?_)
 . simp-implicitDefEqProofs (disch:=omega) only[go_sem]
   exact⟨l',G,rfl,ax⟩
 have fin:∀(k:Nat)(oL:Mem),2*i+1<=k->k<l.length->∀po s2,po.Perm l'->∃e5,e5<l.length -i/\∃(eI:Nat)(eW:List (aI×Int))(X6:Mem),e5=l.length -eI/\[V.ptr h 0,.int .i64 k]=[V.ptr h 0,.int .i64 eI]/\kj f M a ver b3 po s2=kj f M a ver b3 eW X6/\eW.Perm l/\eI<=l.length:=
  fun k oL U af po s2 nw=>⟨l.length -k,by omega,k,po,s2,rfl,rfl,rfl,nw.trans ax,by omega⟩;simp-implicitDefEqProofs (disch:=omega) only[go_sem,eX,vd,UC,ba,ei];refine a5 (fun a9=>?_) (fun a9=>?_)
 . simp-implicitDefEqProofs (disch:=omega) only[go_sem,ba]
   refine ew (Kz fX (by omega) (by omega)) ?_;rintro v _ ⟨⟨b,rfl⟩,oL,rfl⟩;rw[Kj];simp-implicitDefEqProofs (disch:=omega) only[go_sem];refine cp (fun g=>?_) (fun g=>?_)
   . simp-implicitDefEqProofs (disch:=omega) only[go_sem,ba]
     refine N4 H ei _ _ _ (i:=i) (k:=2*i+2) (by omega) (by omega) rfl rfl rfl (fun s oL=>⟨rfl,l',_,rfl,ax⟩) fun po s2 nw=>.inl (fin _ [] (by omega) (by omega) po s2 nw)
   . simp-implicitDefEqProofs (disch:=omega) only[go_sem]
     refine N4 H ei _ _ _ (i:=i) (k:=2*i+1) (by omega) (by omega) rfl rfl rfl (fun s oL=>⟨rfl,l',_,rfl,ax⟩) fun po s2 nw=>.inl (fin _ [] (by omega) (by omega) po s2 nw)
 . simp-implicitDefEqProofs (disch:=omega) only[go_sem]
   refine N4 H ei _ _ _ (i:=i) (k:=2*i+1) (by omega) (by omega) rfl rfl rfl (fun s oL=>⟨rfl,l',_,rfl,ax⟩) fun po s2 nw=>.inl (fin _ [] (by omega) (by omega) po s2 nw)
def ft(h:Nat)(M ah:Mem):Prop:=∀(i:Nat)(B:a2),M[i]? =some B->i≠h->(∀R ver fz,B≠.arr 14 R ver fz)->ah[i]? =some B
theorem ft.refl(h:Nat)(M:Mem):ft h M M:=fun _ _ h _ _=>h
theorem ft.trans{h:Nat}{M ah mb:Mem}(a:ft h M ah)(b:ft h ah mb):ft h M mb:=fun i B U af ay=>b i B (a i B U af ay) af ay
theorem ft.app(h:Nat)(M L:Mem):ft h M (M++L):=fun i B U _ _=>b6 U L
theorem ft.NZ{h a:Nat}{M:Mem}{R:List (List V)}{ver fz:Nat}(bk:M[a]? =some (.arr 14 R ver fz))(B:a2):ft h M (M.set a B):=fun i C U _ ay=>by
 by_cases hi:a=i
 . subst hi;rw[bk] at U;cases U;exact absurd rfl (ay R ver fz)
 . rw[dx hi];exact U
theorem ft.N0(h:Nat)(M:Mem)(B:a2):ft h M (M.set h B):=fun i C U af _=>by
 rw[dx (gi af)];exact U
theorem ft.qp{f:bd}{M:Mem}{h a ver:Nat}{c:Int}{l:List (aI×Int)}{b3:List (List V)}(H:gE f M h a ver c l b3)(l':List (aI×Int))(G:Mem):ft h M (kj f M a ver b3 l' G):=
 (ft.NZ H.a _).trans (ft.app _ _ _)
theorem ft.new{h i:Nat}{M N:Mem}(a:ft h M N)(hi:M.length<=i)(B:a2):ft h M (N.set i B):=fun k C U af ay=>by
 have:=(bn.1 U).1;rw[dx (by omega)];exact a k C U af ay
theorem gE.uo{f:bd}{M:Mem}{h a ver:Nat}{c:Int}{l:List (aI×Int)}{b3:List (List V)}(H:gE f M h a ver c l b3){i:Nat}(U:i≠h)(af:i≠a)(B:a2):gE f (M.set i B) h a ver c l b3:=
 ⟨by rw[dx U];exact H.h,by rw[dx af];exact H.a⟩
def yC:List V:=[.int .i64 0,.int .i64 0,.int .i64 0,.int .i64 0,.int .i64 0,.int .i64 0,.int .i64 0,.int .i64 0,.int .i64 0,.int .i64 0,.int .i64 0,.dm,.slice [] .nil]
theorem OV{f:bd}{M:Mem}{h a ver:Nat}{c:Int}{l:List (aI×Int)}{b3:List (List V)}(H:gE f M h a ver c l b3):cj av zP [.ptr h 0] M (fun v ah=>v=.int .i64 l.length/\ah=M):=by
 have a4:=H.h;have l0:=fun n=>DS (n:=n) H.a;refine hx Ln (by simp[w2]) ?_;simp only[hq];simp-implicitDefEqProofs (disch:=omega) only[go_sem,w2,eX,wQ,a4,l0]
theorem ZR{f:bd}{M:Mem}{h a ver:Nat}{c:Int}{x:aI×Int}{r:List (aI×Int)}{b3:List (List V)}(H:gE f M h a ver c (x::r) b3):
 cj av HU [.ptr h 0] M (fun v ah=>v=.tuple [.agg (x.1.row f),.bool true]/\∃G,ah=M++G):=by
 have vg:=fun L=>OV (H.app L);have a4:=fun L=>b6 H.h L;have aO:=fun L=>tU (i:=0) (n:=(x::r).length) (b6 H.a L) (by simp) (by simp);have bk:=fun L=>b6 H.a L;have gm:(((x::r).map (dZ f)++b3))[0]? =some (dZ f x):=rfl;have JL:∀x:aI×Int,(dZ f x).take 13=x.1.row f:=fun x=>rfl;have pz:∀l:aI,(l.row f).take 13=l.row f:=fun _=>rfl;have f6:=fun L=>iP M L;have j5:=fun L=>k7 M L;have eZ:=fun L=>e0 M L;have kk:=fun L=>kg M L;have a7:decide (((x::r).length:Int)=0)=false:=decide_eq_false (by simp;omega);simp only[Int.ofNat_zero] at aO;refine hx RX (by simp[BM]) ?_;simp only[hq];generalize ob:x::r=l at*;simp-implicitDefEqProofs (disch:=omega) only[go_sem,BM,eB];refine me (vg _) ?_;simp-implicitDefEqProofs (disch:=omega) only[go_sem,a7,eX,a4,aO,bk,gm,py,JL,eZ,kk,aI.len,aI.cell,Aq,pz];exact⟨_,rfl⟩
theorem aKa{α:Type}{x y:α}{r:List α}(aD:(x::r)[r.length]? =some y):((((x::r).set 0 y).set r.length x).take r.length).Perm r:=by
 have ax:=Oc (l:=x::r) (i:=0) (k:=r.length) (x:=x) (y:=y) rfl aD;have ag:(((x::r).set 0 y).set r.length x).length=r.length+1:=by rw[eO,eO];rfl
 generalize aB:((x::r).set 0 y).set r.length x=l at ax ag⊢;have xm:l[r.length]? =some x:=by rw[<-aB,eC (by rw[eO];simp)]
 have ak:l.take r.length++[x]=l:=by
  calc l.take r.length++[x]=l.take (r.length+1):=by rw[hR,xm];rfl
   _=l:=g1 (by omega)
 rw[<-ak] at ax;exact((List.perm_append_singleton x _).symm.trans ax).cons_inv
theorem ZV{f:bd}{M:Mem}{h a ver:Nat}{c:Int}{x:aI×Int}{r:List (aI×Int)}{b3:List (List V)}(H:gE f M h a ver c (x::r) b3)(aj:(x::r).length<=1000000000000):
 cj av Dv [.ptr h 0] M (fun v ah=>v=.tuple [.agg (x.1.row f),.bool true]/\∃l' Kc,gE f ah h a ver c l' Kc/\l'.Perm r/\ft h M ah):=by
 obtain⟨y,aD⟩:∃y,(x::r)[r.length]? =some y:=⟨(x::r)[r.length]'(by simp),by simp⟩;have vm:=aKa aD;have Hk:=fun L=>ZR (H.app L);have fN:∀(K:Mem)(B:a2),(K++[B])[K.length]? =some B:=fun K B=>by simp
 have jL:∀(K:Mem)(B X:a2),(K++[B]).set K.length X=K++[X]:=fun K B X=>by simp
 have hle:(x::r).length=r.length+1:=rfl;have l2:(((r.length+1:Nat):Int) -1)=(r.length:Int):=by omega
 have o6:h<M.length:=(bn.1 H.h).1;have aEp:a<M.length:=(bn.1 H.a).1;have pz:∀l:aI,(l.row f).take 13=l.row f:=fun _=>rfl;refine hx RY (by simp[BN]) ?_;simp only[hq];simp-implicitDefEqProofs (disch:=omega) only[go_sem,BN];refine ew (Hk _) ?_;rintro v _ ⟨rfl,G,rfl⟩;obtain⟨N,db,J_,g9,cl⟩:∃N,N=(M++[a2.box yC])++G/\gE f N h a ver c (x::r) b3/\N[M.length]? =some (.box yC)/\ft h M N:=⟨_,rfl,(H.app _).app _,b6 (fN M _) G,(ft.app h M _).trans (ft.app h _ _)⟩;rw[<-show N=(M++[a2.box [.int .i64 0,.int .i64 0,.int .i64 0,.int .i64 0,.int .i64 0,.int .i64 0,.int .i64 0,.int .i64 0,.int .i64 0,.int .i64 0,.int .i64 0,.dm,.slice [] .nil]])++G from db];clear db;simp-implicitDefEqProofs (disch:=omega) only[go_sem,fN,jL,aI.len,aI.cell,Aq];have aD7:M.length<N.length:=(bn.1 g9).1;generalize ap:N.length=j at aD7⊢;obtain⟨dY,db,rX,g9,aNJ,cl⟩:∃dY,dY=N++[a2.box (x.1.row f)]/\gE f dY h a ver c (x::r) b3/\dY[M.length]? =some (.box yC)/\dY[j]? =some (.box (x.1.row f))/\ft h M dY:=⟨_,rfl,J_.app _,b6 g9 _,by rw[<-ap];exact fN _ _,cl.trans (ft.app h _ _)⟩;rw[<-db];clear db;obtain⟨cU,fa⟩:∃cU,cU=((x::r).set 0 y).set r.length x:=⟨_,rfl⟩;have CU:cU.length=r.length+1:=by rw[fa,eO,eO];rfl
 have xm:cU[r.length]? =some x:=by rw[fa,eC (by rw[eO];simp)]
 have MJ:cU.take r.length++[x]=cU:=by
  calc cU.take r.length++[x]=cU.take (r.length+1):=by rw[hR,xm];rfl
   _=cU:=g1 (by omega)
 have sv:cU.map (dZ f)++b3=(cU.take r.length).map (dZ f)++(dZ f x::b3):=by
  conv=>lhs;rw[<-MJ]
  simp
 have vt:=Od rX (i:=0) (k:=r.length) rfl aD;rw[<-fa] at vt vm;have h2:=rX.set (l':=cU) (by rw[CU];rfl);have pP:=cl.trans (ft.NZ rX.a (.arr 14 (cU.map (dZ f)++b3) ver 0));have Xt:(dY.set a (.arr 14 (cU.map (dZ f)++b3) ver 0))[M.length]? =some (.box yC):=by rw[dx (by omega)];exact g9
 have Xx:(dY.set a (.arr 14 (cU.map (dZ f)++b3) ver 0))[j]? =some (.box (x.1.row f)):=by rw[dx (by omega)];exact aNJ
 have Tu:=rX.h;have aII:=fun n=>DS (n:=n) rX.a;simp only[hle] at Tu;simp-implicitDefEqProofs (disch:=omega) only[go_sem,↓br 10,↓br 23,eX,Tu,aII,l2];simp-implicitDefEqProofs (disch:=omega) only[go_sem,↓br 12,↓br 22];refine ew vt ?_;rintro v _ ⟨rfl,rfl⟩;generalize dY.set a (.arr 14 (cU.map (dZ f)++b3) ver 0)=fH at h2 pP Xt Xx⊢;have Tv:=h2.h;rw[CU] at Tv;have N5:=VB (n:=r.length+1) (k:=r.length) h2.a (by rw[dT,eD,CU];omega) (by omega);simp-implicitDefEqProofs (disch:=omega) only[go_sem,↓br 14,↓br 21,eX,Tv,N5];have gT:(cU.take r.length).length=r.length:=by rw[iw];omega
 have lK:gE f (fH.set h (.box [.dH kb [],.aX a ver 0 r.length,.int .i64 c])) h a ver c (cU.take r.length) (dZ f x::b3):=
  ⟨by rw[eC (bn.1 h2.h).1,gT],by rw[dx h2.ne,<-sv];exact h2.a⟩;have kW:=pP.trans (ft.N0 h fH (.box [.dH kb [],.aX a ver 0 r.length,.int .i64 c]));have Xu:(fH.set h (.box [.dH kb [],.aX a ver 0 r.length,.int .i64 c]))[M.length]? =some (.box yC):=by rw[dx (by omega)];exact Xt
 have Xy:(fH.set h (.box [.dH kb [],.aX a ver 0 r.length,.int .i64 c]))[j]? =some (.box (x.1.row f)):=by rw[dx (by omega)];exact Xx
 generalize fH.set h (.box [.dH kb [],.aX a ver 0 r.length,.int .i64 c])=ii at lK kW Xu Xy⊢;have aGX:=aLM lK (by omega);simp-implicitDefEqProofs (disch:=omega) only[go_sem,↓br 16,↓br 20];refine ew aGX ?_;rintro v _ ⟨rfl,DO,J9,rfl,TS⟩;have OR:=lK.qp TS.length_eq J9;have aC:=ft.qp lK DO J9;have GN:=kW.trans aC;have OF:=aC _ _ Xu (by omega) (by intro _ _ _ e;cases e);have Xz:=aC _ _ Xy (by omega) (by intro _ _ _ e;cases e);generalize kj f ii a ver (dZ f x::b3) DO J9=qH at OR GN OF Xz⊢;have c5:∀X,(qH.set M.length X)[M.length]? =some X:=fun X=>eC (bn.1 OF).1;have D_:gU yC 0 (x.1.row f)=x.1.row f:=rfl;have aIQ:yC.length=13:=rfl;simp-implicitDefEqProofs (disch:=omega) only[go_sem,↓br 18,↓br 19,Xz,OF,c5,aI.len,aI.cell,aIQ,D_,pz];exact⟨DO,_,OR.uo (by omega) (by omega) _,TS.trans vm,GN.new (cF _) _⟩
end Go.aQ.C
namespace Go.aQ.C
open Go.aQ
theorem aEm(n:Nat)(aK:n<=1000000000000):dB .quo .none (.int .i64 (n:Int)) (.int .i64 2)=some (.int .i64 ((n/2:Nat):Int)):=by
 rw[KD _ _ _ _ (by omega)];have:Int.tdiv (n:Int) 2=((n/2:Nat):Int):=rfl;rw[this,qv _ (by omega) (by omega)]
theorem VG{f:bd}{M:Mem}{h a ver:Nat}{c:Int}{l:List (aI×Int)}{b3:List (List V)}(H:gE f M h a ver c l b3)(aj:l.length<=1000000000000)(U:0<l.length)(Q:Exit->aH->Mem->Prop)
 (gq:∀l' G s,l'.Perm l->Q .normal s (kj f M a ver b3 l' G)):
 dv av P5 Q [(0,.ptr h 0),(4,.int .i64 ((l.length -1:Nat):Int))] M:=by
 have kq:a<M.length:=(bn.1 H.a).1;simp-implicitDefEqProofs (disch:=omega) only[go_sem,↓br 19,↓br 20];refine oC (fun m vs N=>∃(i:Nat)(l':List (aI×Int))(G:Mem),m=i/\vs=[.ptr h 0,.int .i64 i]/\N=kj f M a ver b3 l' G/\l'.Perm l/\i<l.length) (l.length -1)
  ⟨l.length -1,l,[],rfl,rfl,(O4 H).symm,.refl _,by omega⟩ ?_;rintro i vs N ⟨_,l',G,rfl,rfl,rfl,ax,hi⟩;have ei:=ax.length_eq;have fX:=H.qp ei G;simp-implicitDefEqProofs (disch:=omega) only[go_sem];refine a5 (fun aW=>?_) (fun aW=>?_);rotate_left
 . simp-implicitDefEqProofs (disch:=omega) only[go_sem]
   exact gq l' G _ ax
 have a6:((i:Int) -1)=((i -1:Nat):Int):=by omega
 have ba:=aEm (i -1) (by omega);obtain⟨x,ab⟩:∃x,l'[i]? =some x:=⟨l'[i]'(by omega),by simp⟩;obtain⟨y,aD⟩:∃y,l'[(i -1)/2]? =some y:=⟨l'[(i -1)/2]'(by omega),by simp⟩;simp-implicitDefEqProofs (disch:=omega) only[go_sem,a6,ba];refine ew (Kz fX (by omega) (by omega)) ?_;rintro v _ ⟨⟨b,rfl⟩,oL,rfl⟩;rw[Kj];simp-implicitDefEqProofs (disch:=omega) only[go_sem];refine cp (fun a9=>?_) (fun a9=>?_);rotate_left
 . simp-implicitDefEqProofs (disch:=omega) only[go_sem]
   exact gq l' _ _ ax
 simp-implicitDefEqProofs (disch:=omega) only[go_sem,a6,ba];refine ew (Od (H.qp ei (G++oL)) ab aD) ?_;rintro v _ ⟨rfl,rfl⟩;rw[O3 kq];simp-implicitDefEqProofs (disch:=omega) only[go_sem,a6,ba];exact yf ((i -1)/2) (by omega) ⟨(i -1)/2,_,_,rfl,rfl,rfl,(Oc ab aD).trans ax,by omega⟩
theorem aKi{f:bd}{M:Mem}{h a ver:Nat}{c:Int}{l:List (aI×Int)}{b3:List (List V)}(H:gE f M h a ver c l b3)(e:aI×Int)(aj:l.length<=1000000000000):
 d0 false 14 128 (.aX a ver 0 l.length) (.slice [dZ f e] .full) M=some (.aX a (ver+1) 0 (l.length+1),M.set a (.arr 14 ((l++[e]).map (dZ f)) (ver+1) 0)):=by
 have aw:decide ((l.length+1)*256<=2^48)=true:=decide_eq_true (by omega);have al:((dZ f e).length==14)=true:=rfl;cases b3 with
 |nil=>
  have af:(l.length==(l.map (dZ f)++[]).length)=true:=by simp
  have ay:(l.map (dZ f)++[]).length=l.length:=by simp
  simp only[d0,eJ,fq,al,dz,gZ,ev,beq_self_eq_true,cond_true,g3,H.a,ay,eR,Nat.reduceMul,aw];simp
 |cons q j=>
  have af:(l.length==(l.map (dZ f)++q::j).length)=false:=by simp
  have ay:decide (l.length<=(l.map (dZ f)++q::j).length)=true:=decide_eq_true (by simp);simp only[d0,eJ,fq,al,dz,gZ,ev,beq_self_eq_true,cond_true,cond_false,g3,H.a,af,ay,eR,Bool.and_false,Bool.false_and,Nat.reduceMul,aw,fG,decide_true];simp
theorem ZY{f:bd}{M:Mem}{h a ver:Nat}{c:Int}{l:List (aI×Int)}{b3:List (List V)}(H:gE f M h a ver c l b3)(x:aI)(aj:l.length+1<=1000000000000):
 cj av zQ [.ptr h 0,.agg (x.row f)] M (fun v ah=>v=.tuple []/\∃c0 l',gE f ah h a (ver+1) c0 l' []/\l'.Perm (l++[(x,c)])/\ft h M ah):=by
 have fN:∀(K:Mem)(B:a2),(K++[B])[K.length]? =some B:=fun K B=>by simp
 have o6:h<M.length:=(bn.1 H.h).1;have aEp:a<M.length:=(bn.1 H.a).1;have a4:=fun L=>b6 H.h L;have eU:=fun L=>aKi (H.app L) (x,c) (by omega);have D_:gU [.int .i64 0,.int .i64 0,.int .i64 0,.int .i64 0,.int .i64 0,.int .i64 0,.int .i64 0,.int .i64 0,.int .i64 0,.int .i64 0,.int .i64 0,.dm,.slice [] .nil,.int .i64 0] 0 (x.row f)=x.row f++[.int .i64 0]:=rfl;have NC:(x.row f++[V.int .i64 0]).length=14:=rfl;have cP:(x.row f++[V.int .i64 0]).set 13 (.int .i64 c)=dZ f (x,c):=rfl;have Og:∀x,(dZ f x).take 14=dZ f x:=fun _=>rfl;obtain⟨dY,q2,b8,dS,cl⟩:∃dY,dY=(M++[a2.box (x.row f)]).set a (.arr 14 ((l++[(x,c)]).map (dZ f)) (ver+1) 0)/\dY[h]? =some (.box [.dH kb [],.aX a ver 0 l.length,.int .i64 c])/\dY[a]? =some (.arr 14 ((l++[(x,c)]).map (dZ f)) (ver+1) 0)/\ft h M dY:=
  ⟨_,rfl,by rw[dx H.ne.symm];exact a4 _,eC (by rw[dT];omega),(ft.app h M _).trans (ft.NZ (b6 H.a _) _)⟩;have bH:=q2.symm;have Mk:=(bn.1 b8).1;have fr:∀X,(dY.set h X)[h]? =some X:=fun X=>eC Mk;have fs:∀X Y,(dY.set h X).set h Y=dY.set h Y:=fun X Y=>List.set_set ..;have ia:∀X,(dY.set h X)[a]? =some (.arr 14 ((l++[(x,c)]).map (dZ f)) (ver+1) 0):=fun X=>by rw[dx H.ne];exact dS
 have a6:(((l.length+1:Nat):Int) -1)=((l.length:Nat):Int):=by omega
 have pz:∀l:aI,(l.row f).take 13=l.row f:=fun _=>rfl;refine hx Lo (by simp[w3]) ?_;simp only[hq];simp-implicitDefEqProofs (disch:=omega) only[go_sem,w3,eX,wQ,aI.len,fN,a4,pz,D_,NC,cP,NF,py,NR,Og,eU,bH,b8,fr,fs,ia,a6];have lK:gE f (dY.set h (.box [.dH kb [],.aX a (ver+1) 0 (l.length+1),.int .i64 (IntKind.i64.wrap (c+1))])) h a (ver+1) (IntKind.i64.wrap (c+1)) (l++[(x,c)]) []:=
  ⟨by rw[eC (bn.1 b8).1,dT];rfl,by rw[dx H.ne,fU];exact dS⟩;have kW:=cl.trans (ft.N0 h dY (.box [.dH kb [],.aX a (ver+1) 0 (l.length+1),.int .i64 (IntKind.i64.wrap (c+1))]));generalize dY.set h (.box [.dH kb [],.aX a (ver+1) 0 (l.length+1),.int .i64 (IntKind.i64.wrap (c+1))])=ii at lK kW⊢;rw[show l.length=(l++[(x,c)]).length -1 by simp];refine VG lK (by simp;omega) (by simp) _ fun l' G s ax=>?_;simp-implicitDefEqProofs (disch:=omega) only[go_sem];exact⟨_,l',lK.qp ax.length_eq G,ax,kW.trans (ft.qp lK l' G)⟩
theorem ZZ{f:bd}{M:Mem}{h:Nat}{c:Int}(H:M[h]? =some (.box [.dH kb [],.slice [] .nil,.int .i64 c]))(x:aI):
 cj av zQ [.ptr h 0,.agg (x.row f)] M (fun v ah=>v=.tuple []/\∃a ver c0,gE f ah h a ver c0 [(x,c)] []/\ft h M ah):=by
 have fN:∀(K:Mem)(B:a2),(K++[B])[K.length]? =some B:=fun K B=>by simp
 have o6:h<M.length:=(bn.1 H).1;have a4:=fun L=>b6 H L;have eU:∀K:Mem,d0 false 14 128 (.slice [] .nil) (.slice [dZ f (x,c)] .full) K=some (.aX K.length 0 0 1,K++[.arr 14 [dZ f (x,c)] 0 0]):=fun K=>by
  simp only[d0,eJ,fq,py,beq_self_eq_true,cond_true,g3];rfl
 have D_:gU [.int .i64 0,.int .i64 0,.int .i64 0,.int .i64 0,.int .i64 0,.int .i64 0,.int .i64 0,.int .i64 0,.int .i64 0,.int .i64 0,.int .i64 0,.dm,.slice [] .nil,.int .i64 0] 0 (x.row f)=x.row f++[.int .i64 0]:=rfl;have NC:(x.row f++[V.int .i64 0]).length=14:=rfl;have cP:(x.row f++[V.int .i64 0]).set 13 (.int .i64 c)=dZ f (x,c):=rfl;have Og:∀x,(dZ f x).take 14=dZ f x:=fun _=>rfl;have pz:∀l:aI,(l.row f).take 13=l.row f:=fun _=>rfl;have zi:(M++[a2.box (x.row f)]).length=M.length+1:=by simp
 obtain⟨dY,q2,b8,dS,cl⟩:∃dY,dY=(M++[a2.box (x.row f)])++[.arr 14 [dZ f (x,c)] 0 0]/\dY[h]? =some (.box [.dH kb [],.slice [] .nil,.int .i64 c])/\dY[M.length+1]? =some (.arr 14 [dZ f (x,c)] 0 0)/\ft h M dY:=
  ⟨_,rfl,b6 (a4 _) _,by rw[<-zi];exact fN _ _,(ft.app h M _).trans (ft.app h _ _)⟩;have bH:(M++[a2.box (x.row f)])++[.arr 14 [dZ f (x,c)] 0 0]=dY:=q2.symm;have Mk:=(bn.1 b8).1;have fr:∀X,(dY.set h X)[h]? =some X:=fun X=>eC Mk;have fs:∀X Y,(dY.set h X).set h Y=dY.set h Y:=fun X Y=>List.set_set ..;have ia:∀X,(dY.set h X)[M.length+1]? =some (.arr 14 [dZ f (x,c)] 0 0):=fun X=>by rw[dx (by omega)];exact dS
 have a6:(((1:Nat):Int) -1)=(([(x,c)].length -1:Nat):Int):=rfl;refine hx Lo (by simp[w3]) ?_;simp only[hq];simp-implicitDefEqProofs (disch:=omega) only[go_sem,w3,eX,wQ,aI.len,fN,a4,pz,D_,NC,cP,NF,py,NR,Og,eU,zi,bH,b8,fr,fs,ia];have lK:gE f (dY.set h (.box [.dH kb [],.aX (M.length+1) 0 0 1,.int .i64 (IntKind.i64.wrap (c+1))])) h (M.length+1) 0 (IntKind.i64.wrap (c+1)) [(x,c)] []:=
  ⟨fr _,ia _⟩;have kW:=cl.trans (ft.N0 h dY (.box [.dH kb [],.aX (M.length+1) 0 0 1,.int .i64 (IntKind.i64.wrap (c+1))]));generalize dY.set h (.box [.dH kb [],.aX (M.length+1) 0 0 1,.int .i64 (IntKind.i64.wrap (c+1))])=ii at lK kW⊢;rw[a6];refine VG lK (by simp) (by simp) _ fun l' G s ax=>?_;simp-implicitDefEqProofs (disch:=omega) only[go_sem];have ag:l'=[(x,c)]:=List.perm_singleton.1 ax;subst ag;exact⟨_,_,_,lK.qp rfl G,kW.trans (ft.qp lK _ G)⟩
def mL(f:bd)(M:Mem)(h:Nat)(Q:List aI):Prop:=∃c,(M[h]? =some (.box [.dH kb [],.slice [] .nil,.int .i64 c])/\Q=[])∨
 ∃a ver l b3,gE f M h a ver c l b3/\(l.map (·.1)).Perm Q
theorem mL.app{f:bd}{M:Mem}{h:Nat}{Q:List aI}(H:mL f M h Q)(L:Mem):mL f (M++L) h Q:=by
 obtain⟨c,⟨U,af⟩|⟨a,ver,l,b3,U,af⟩⟩:=H
 . exact⟨c,.inl ⟨b6 U L,af⟩⟩
 . exact⟨c,.inr ⟨a,ver,l,b3,U.app L,af⟩⟩
theorem mL.fJ{f:bd}{M ah:Mem}{h:Nat}{Q:List aI}(H:mL f M h Q)(U:ah[h]? =M[h]?)(af:∀(i:Nat) R ver,M[i]? =some (a2.arr 14 R ver 0)->ah[i]? =M[i]?):mL f ah h Q:=by
 obtain⟨c,⟨bH,b8⟩|⟨a,ver,l,b3,bH,b8⟩⟩:=H
 . exact⟨c,.inl ⟨U.trans bH,b8⟩⟩
 . exact⟨c,.inr ⟨a,ver,l,b3,⟨U.trans bH.h,(af a _ ver bH.a).trans bH.a⟩,b8⟩⟩
theorem Z1{f:bd}{M:Mem}{h:Nat}{Q:List aI}(H:mL f M h Q):cj av zP [.ptr h 0] M (fun v ah=>v=.int .i64 Q.length/\ah=M):=by
 obtain⟨c,⟨bH,rfl⟩|⟨a,ver,l,b3,bH,b8⟩⟩:=H
 . refine hx Ln (by simp[w2]) ?_
   simp only[hq];simp-implicitDefEqProofs (disch:=omega) only[go_sem,w2,eX,wQ,bH]
 . rw[show Q.length=l.length by rw[<-b8.length_eq,eD]]
   exact OV bH
theorem Z3{f:bd}{M:Mem}{h:Nat}{Q:List aI}(H:mL f M h Q)(a4:0<Q.length)(aj:Q.length<=1000000000000):
 cj av Dv [.ptr h 0] M (fun v ah=>∃x cI,v=.tuple [.agg (x.row f),.bool true]/\mL f ah h cI/\(x::cI).Perm Q/\ft h M ah):=by
 obtain⟨c,⟨bH,rfl⟩|⟨a,ver,l,b3,bH,b8⟩⟩:=H
 . cases a4
 have ag:=b8.length_eq;rw[eD] at ag;cases l with
 |nil=>simp at ag;omega
 |cons x r=>
  refine cj.mono (ZV bH (by omega)) ?_;rintro v ah ⟨rfl,l',Kc,fX,ax,cl⟩;exact⟨x.1,l'.map (·.1),rfl,⟨c,.inr ⟨a,ver,l',Kc,fX,.refl _⟩⟩,((ax.map (fun y=>y.1)).cons x.1).trans (by simpa using b8),cl⟩
theorem Z4{f:bd}{M:Mem}{h:Nat}{Q:List aI}(H:mL f M h Q)(x:aI)(aj:Q.length+1<=1000000000000):
 cj av zQ [.ptr h 0,.agg (x.row f)] M (fun v ah=>v=.tuple []/\mL f ah h (Q++[x])/\ft h M ah):=by
 obtain⟨c,⟨bH,rfl⟩|⟨a,ver,l,b3,bH,b8⟩⟩:=H
 . refine cj.mono (ZZ bH x) ?_
   rintro v ah ⟨rfl,a,ver,c0,fX,cl⟩;exact⟨rfl,⟨c0,.inr ⟨a,ver,_,_,fX,.refl _⟩⟩,cl⟩
 . have ag:=b8.length_eq
   rw[eD] at ag;refine cj.mono (ZY bH x (by omega)) ?_;rintro v ah ⟨rfl,c0,l',fX,ax,cl⟩;refine⟨rfl,⟨c0,.inr ⟨a,_,l',_,fX,?_⟩⟩,cl⟩;refine(ax.map (·.1)).trans ?_;rw[List.map_append];exact b8.append_right _
theorem Z2{M:Mem}(f:bd):cj av HW [.dH kb []] M (fun v ah=>v=.ptr M.length 0/\∃B,ah=M++[B]/\mL f ah M.length []):=by
 have a6:dB .eql .fn (.dH kb []) .gu=some (.bool false):=rfl;refine hx R4 (by simp[BR]) ?_;simp only[hq];simp-implicitDefEqProofs (disch:=omega) only[go_sem,BR,a6];exact⟨_,rfl,0,.inl ⟨by rw[e0];rfl,rfl⟩⟩
end Go.aQ.C
namespace Go.aQ.C
open Go.aQ
noncomputable instance:DecidableEq Place:=fun _ _=>Classical.propDecidable _
def oe(p:Place):V:=.agg p.row
theorem MW:j0 (.cells [.int,.int,.int,.int,.int,.int,.int,.int]) oe:=by
 refine⟨fun _=>rfl,fun x y=>?_⟩;have e:decide (x=y)=(decide (x.kind=y.kind)&&(decide (x.stop=y.stop)&&(decide (x.run=y.run)&&(decide (x.cM=y.cM)&&(decide (x.cR.cB=y.cR.cB)&&(decide (x.cR.c_=y.cR.c_)&&(decide (x.cR.gb=y.cR.gb)&&(decide (x.cR.eP=y.cR.eP)&&true)))))))):=by
  obtain⟨k,s,r,c,⟨a,b,z,m⟩⟩:=x;obtain⟨dj,aM,gA,c0,⟨du,iM,OE,e5⟩⟩:=y;rw[Bool.eq_iff_iff];simp only[b_,decide_eq_true_eq,Place.mk.injEq,a1.mk.injEq,and_true]
 rw[e];rfl
section
variable{α:Type}[DecidableEq α]{c:fl}{cE:α->V}
theorem UM(h:j0 c cE){x:α}:∀(l:List (α×V))(n i:Nat)(v:V),l[i]? =some (x,v)->(∀(k:Nat)(e:α×V),k<i->l[k]? =some e->e.1≠x)->hH c (cE x) (cC cE l) n=some (n+i)
 |[],_,_,_,hi,_=>by simp at hi
 |e::l,n,0,v,hi,_=>by
  have he:e=(x,v):=by simpa using hi
  subst he;show(bif (hV c (cE x) (cE x)).getD false then some n else _)=_;rw[h.eq,decide_eq_true rfl];rfl
 |e::l,n,i+1,v,hi,aK=>by
  have U:decide (x=e.1)=false:=decide_eq_false fun q=>aK 0 e (by omega) rfl q.symm;show(bif (hV c (cE x) (cE e.1)).getD false then _ else hH c (cE x) (cC cE l) (n+1))=_;rw[UM h l (n+1) i v (by simpa using hi) fun k fm ao he=>aK (k+1) fm (by omega) (by simpa using he),h.eq,U];show some (n+1+i)=some (n+(i+1));rw[show n+1+i=n+(i+1) by omega]
theorem UN(h:j0 c cE){x:α}:∀(l:List (α×V))(n:Nat),(∀e∈l,e.1≠x)->hH c (cE x) (cC cE l) n=none
 |[],_,_=>rfl
 |e::l,n,aK=>by
  have U:decide (x=e.1)=false:=decide_eq_false fun q=>aK e (by simp) q.symm;show(bif (hV c (cE x) (cE e.1)).getD false then _ else hH c (cE x) (cC cE l) (n+1))=_;rw[UN h l (n+1) fun q aG=>aK q (by simp[aG]),h.eq,U];rfl
theorem aBa(h:j0 c cE){x:α}{l:List (α×V)}{i m:Nat}{v z:V}{M:Mem}(bb:M[m]? =some (.map (cC cE l)))(hi:l[i]? =some (x,v))(aK:∀(k:Nat)(e:α×V),k<i->l[k]? =some e->e.1≠x):
 t6 c z (.map m) (cE x) M=some (.tuple [v,.int .i64 i],M):=by
 have aB:(cC cE l)[i]? =some (cE x,v):=by rw[cC,gY,hi];rfl
 obtain⟨U,af⟩:=bn.1 aB;have ak:(cC cE l).set i (cE x,v)=cC cE l:=by rw[<-af,List.set_getElem_self]
 obtain⟨ay,be⟩:=bn.1 bb;have iz:M.set m (.map (cC cE l))=M:=by rw[<-be,List.set_getElem_self]
 simp only[t6,bb,h.key,z7 h,eR,cond_true,UM h l 0 i v hi aK,ev,aB,mI,ak,iz]
theorem aBb(h:j0 c cE){x:α}{l:List (α×V)}{m:Nat}{z:V}{M:Mem}(bb:M[m]? =some (.map (cC cE l)))(aK:∀e∈l,e.1≠x):
 t6 c z (.map m) (cE x) M=some (.tuple [z,.int .i64 l.length],M.set m (.map (cC cE (l++[(x,z)])))):=by
 simp only[t6,bb,h.key,z7 h,eR,cond_true,UN h l 0 aK];simp[cC]
theorem QZ{x:α}{l:List (α×V)}{i m:Nat}{v w:V}{M:Mem}(bb:M[m]? =some (.map (cC cE l)))(hi:l[i]? =some (x,v))(hw:w.iA=true):
 wO (.map m) (.int .i64 (i:Int)) w M=some (.undef,M.set m (.map (cC cE (l.set i (x,w))))):=by
 have aB:(cC cE l)[i]? =some (cE x,v):=by rw[cC,gY,hi];rfl
 have a4:decide (0<=(i:Int))=true:=decide_eq_true (by omega);simp only[wO,bb,a4,hw,eR,cond_true,lI,aB,mI];simp[cC,List.map_set]
end
noncomputable def fM (A:List aI) (p:Place):List aI:=A.filter fun l=>decide (l.place=p)
theorem s9(A:List aI)(l:aI)(p:Place):fM (A++[l]) p=if l.place=p then fM A p++[l] else fM A p:=by
 rw[fM,List.filter_append,fM];by_cases h:l.place=p
 . rw[if_pos h];simp[h]
 . rw[if_neg h];simp[h]
def XL(f:bd)(M:Mem)(A:List aI)(p:Place)(v:V):Prop:=∃b ver,v=.aX b ver 0 (fM A p).length/\M[b]? =some (.arr 13 ((fM A p).map (aI.row f)) ver 0)/\0<(fM A p).length
def qI(M:Mem)(v:V)(O:List c7):Prop:=(v=.slice [] .nil/\O=[])∨∃b ver,v=.aX b ver 0 O.length/\M[b]? =some (.arr 7 (O.map c7.row) ver 0)/\0<O.length
def iO(n:Net)(q:Query)(m h:Nat)(o:V):a2:=.box [.slice (n.stops.map Stop.row) n.mB,.slice (n.fK.map fi.row) n.rc,.slice (n.runs.map bS.row) n.rQ,.slice (n.b9.map dA.row) n.lc,.slice (n.paths.map Path.row) n.ql,
 .slice (n.cY.cH.map dk.row) n.cY.tag,.int .i64 n.cY.lq,.int .i64 n.cY.within,.int .i64 n.cY.mw,
 .int .i64 q.src,.int .i64 q.dst,.int .i64 q.time,.bool q.back,.int .i64 q.b1,.int .i64 q.walk,.bool q.free,.bool q.wB,.int .i64 q.eP,.bool q.A1,.map m,.ptr h 0,o]
structure rV(aL:bd)(M:Mem)(m:Nat)(A:List aI)(E:List (Place×V)):Prop where
 map:M[m]? =some (.map (cC oe E))
 DZ:(E.map (·.1)).Nodup
 qN:∀e∈E,XL aL M A e.1 e.2
 all:∀l∈A,l.place∈E.map (·.1)
structure cA(n:Net)(q:Query)(aL:bd)(f h:Nat)(A Q:List aI)(O:List c7)(M:Mem):Prop where
 box:∃m o E,M[f]? =some (iO n q m h o)/\qI M o O/\rV aL M m A E
 qq:mL aL M h Q
def ea(f h:Nat)(M ah:Mem):Prop:=∀(i:Nat)(cs:List V),M[i]? =some (.box cs)->i≠f->i≠h->ah[i]? =some (.box cs)
theorem ea.refl(f h:Nat)(M:Mem):ea f h M M:=fun _ _ h _ _=>h
theorem ea.trans{f h:Nat}{M ah mb:Mem}(a:ea f h M ah)(b:ea f h ah mb):ea f h M mb:=fun i B U af ay=>b i B (a i B U af ay) af ay
theorem ea.app(f h:Nat)(M L:Mem):ea f h M (M++L):=fun i B U _ _=>b6 U L
theorem ea.Jh{f h:Nat}{M ah:Mem}(a:ft h M ah):ea f h M ah:=fun i cs U _ ay=>a i _ U ay (by intro _ _ _ e;cases e)
theorem ea.len{f h:Nat}{M ah:Mem}(a:ea f h M ah):True:=trivial
def Yp(M ah:Mem):Prop:=∀(i:Nat)(B:a2),M[i]? =some B->(∀cs,B≠.box cs)->ah[i]? =some B
theorem qI.fJ{M ah:Mem}{v:V}{O:List c7}(H:qI M v O)(aK:∀(i:Nat) R ver,M[i]? =some (a2.arr 7 R ver 0)->ah[i]? =some (a2.arr 7 R ver 0)):qI ah v O:=by
 rcases H with h|⟨b,ver,U,af,ay⟩
 . exact .inl h
 . exact .inr ⟨b,ver,U,aK _ _ _ af,ay⟩
theorem rV.fJ{aL:bd}{M ah:Mem}{m:Nat}{A:List aI}{E:List (Place×V)}(H:rV aL M m A E)(U:ah[m]? =M[m]?)(aK:∀(i:Nat) R ver,M[i]? =some (a2.arr 13 R ver 0)->ah[i]? =some (a2.arr 13 R ver 0)):rV aL ah m A E:=
 ⟨U.trans H.map,H.DZ,fun e he=>by
   obtain⟨b,ver,bH,b8,dS⟩:=H.qN e he;exact⟨b,ver,bH,aK _ _ _ b8,dS⟩,H.all⟩
theorem cA.fJ{n:Net}{q:Query}{aL:bd}{f h:Nat}{A Q:List aI}{O:List c7}{M ah:Mem}(H:cA n q aL f h A Q O M)(aC:ah[f]? =M[f]?)(ce:ah[h]? =M[h]?)(aK:Yp M ah):cA n q aL f h A Q O ah:=by
 obtain⟨⟨m,o,E,U,af,ay⟩,be⟩:=H;refine⟨⟨m,o,E,aC.trans U,af.fJ fun i R ver hi=>aK _ _ hi (by intro _ e;cases e),ay.fJ ?_ fun i R ver hi=>aK _ _ hi (by intro _ e;cases e)⟩,be.fJ ce fun i R ver hi=>?_⟩
 . rw[aK _ _ ay.map (by intro _ e;cases e),ay.map]
 . rw[aK _ _ hi (by intro _ e;cases e),hi]
theorem cA.app{n:Net}{q:Query}{aL:bd}{f h:Nat}{A Q:List aI}{O:List c7}{M:Mem}(H:cA n q aL f h A Q O M)(L:Mem):cA n q aL f h A Q O (M++L):=by
 obtain⟨m,o,E,U,_⟩:=H.box;have ce:h<M.length:=by
  obtain⟨c,⟨bH,_⟩|⟨a,ver,l,b3,bH,_⟩⟩:=H.qq
  . exact(bn.1 bH).1
  . exact(bn.1 bH.h).1
 exact H.fJ (by rw[b6 U L,U]) (by rw[gh ce]) fun i B hi _=>b6 hi L
theorem cA.uo{n:Net}{q:Query}{aL:bd}{f h:Nat}{A Q:List aI}{O:List c7}{M:Mem}(H:cA n q aL f h A Q O M){i:Nat}{cs:List V}(hi:M[i]? =some (.box cs))(U:i≠f)(af:i≠h)(B:a2):cA n q aL f h A Q O (M.set i B):=
 H.fJ (by rw[dx U]) (by rw[dx af]) fun k C ao ar=>by
  rw[dx fun e=>by subst e;rw[hi] at ao;cases ao;exact ar cs rfl];exact ao
theorem ea.uo{f h i:Nat}{M N:Mem}(a:ea f h M N)(hi:M.length<=i)(B:a2):ea f h M (N.set i B):=fun k C U af ay=>by
 have:=(bn.1 U).1;rw[dx (by omega)];exact a k C U af ay
theorem cA.uY{n:Net}{q:Query}{aL:bd}{f h:Nat}{A Q:List aI}{O:List c7}{M:Mem}(H:cA n q aL f h A Q O M):f≠h/\f<M.length/\h<M.length:=by
 obtain⟨m,o,E,U,_⟩:=H.box;have aC:=(bn.1 U).1;obtain⟨c,⟨bH,_⟩|⟨a,ver,l,b3,bH,_⟩⟩:=H.qq
 . exact⟨(fun e=>by rw[e,bH] at U;cases U),aC,(bn.1 bH).1⟩
 . exact⟨(fun e=>by rw[e,bH.h] at U;cases U),aC,(bn.1 bH.h).1⟩
end Go.aQ.C
namespace Go.aQ.C
open Go.aQ
def ha(l:aI):Prop:=(∀r∈l.base,r.wf)/\l.base.length<=8
def sX(a b:aI):Prop:=a.time<=b.time/\a.b1<=b.b1/\a.walk<=b.walk
theorem aa8(aL:bd)(aC:aL.wf)(bR:aL.hS)(a b:aI)(bk:ha a)(aj:ha b):bQ av Ir [.agg (a.row aL),.agg (b.row aL)] (fun v=>∃t:Bool,v=.bool t/\(t=true->sX a b)):=by
 have aw:=XW aL aC bR a.base b.base bk.1 bk.2 aj.1 aj.2;have lu:∀l:aI,(l.row aL)[8]? =some (.int .i64 l.time):=fun _=>rfl;have ts:∀l:aI,(l.row aL)[9]? =some (.int .i64 l.b1):=fun _=>rfl;have GP:∀l:aI,(l.row aL)[10]? =some (.int .i64 l.walk):=fun _=>rfl;have GQ:∀l:aI,(l.row aL)[11]? =some (f7 aL l.base):=fun _=>rfl;refine bZ Ss (by simp[Ck]) ?_;simp-implicitDefEqProofs (disch:=omega) only[go_sem,Ck,aI.len,lu];refine a5 (fun U=>?_) (fun U=>?_);rotate_left
 . simp-implicitDefEqProofs (disch:=omega) only[go_sem]
   exact⟨false,rfl,by simp⟩
 simp-implicitDefEqProofs (disch:=omega) only[go_sem,ts];refine a5 (fun af=>?_) (fun af=>?_);rotate_left
 . simp-implicitDefEqProofs (disch:=omega) only[go_sem]
   exact⟨false,rfl,by simp⟩
 simp-implicitDefEqProofs (disch:=omega) only[go_sem,GP];refine a5 (fun ay=>?_) (fun ay=>?_);rotate_left
 . simp-implicitDefEqProofs (disch:=omega) only[go_sem]
   exact⟨false,rfl,by simp⟩
 simp-implicitDefEqProofs (disch:=omega) only[go_sem,GQ];refine fI aw ?_ (by simp only[cS,GO];rfl);rintro v ⟨t,rfl⟩;simp-implicitDefEqProofs (disch:=omega) only[go_sem];exact⟨t,rfl,fun _=>⟨U,af,ay⟩⟩
def AP(aL:bd)(M:Mem)(A:List aI)(p:Place)(v:V):Prop:=(v=.slice [] .nil/\fM A p=[])∨∃b ver,v=.aX b ver 0 (fM A p).length/\M[b]? =some (.arr 13 ((fM A p).map (aI.row aL)) ver 0)
theorem SQ{α:Type}[DecidableEq α]{x:α}:∀{E:List (α×V)}{v:V},fR x E=some v->(x,v)∈E
 |[],v,h=>by simp[fR] at h
 |e::E,v,h=>by
  simp only[fR,List.find?_cons] at h;by_cases ab:x=e.1
  . rw[decide_eq_true ab] at h
    simp only[mI,aV] at h;rw[<-h,ab];exact List.mem_cons_self ..
  . rw[decide_eq_false ab] at h
    exact oG _ (SQ h)
theorem SR{α:Type}[DecidableEq α]{x:α}:∀{E:List (α×V)},fR x E=none->∀e∈E,e.1≠x
 |[],_,e,he=>by cases he
 |e::E,h,q,aG=>by
  simp only[fR,List.find?_cons] at h;by_cases ab:x=e.1
  . rw[decide_eq_true ab] at h;cases h
  . rw[decide_eq_false ab] at h
    rcases jm.1 aG with rfl|aG
    . exact fun e=>ab e.symm
    . exact SR h q aG
theorem rV.look{aL:bd}{M:Mem}{m:Nat}{A:List aI}{E:List (Place×V)}(H:rV aL M m A E)(p:Place):∃v,AP aL M A p v/\
 ∀L,oh (.cells [.int,.int,.int,.int,.int,.int,.int,.int]) [.slice [] .nil] false false (.map m) (oe p) (M++L)=some v:=by
 have ag:=z_ MW (.slice [] .nil) false p E;cases aB:fR p E with
 |none=>
  rw[aB] at ag;refine⟨.slice [] .nil,.inl ⟨rfl,?_⟩,fun L=>by simp only[Nb,b6 H.map L,ag]⟩;rw[fM,List.filter_eq_nil_iff];intro l gT ax;obtain⟨e,he,p5⟩:=ld.1 (H.all l gT);exact SR aB e he (p5.trans (of_decide_eq_true ax))
 |some v=>
  rw[aB] at ag;obtain⟨b,ver,bH,b8,_⟩:=H.qN _ (SQ aB);exact⟨v,.inr ⟨b,ver,bH,b8⟩,fun L=>by simp only[Nb,b6 H.map L,ag]⟩
def Pu:V->Nat->V
 |.aX b ver _ _,i=>.fo b ver i 0
 |_,_=>.undef
theorem AP.len{aL:bd}{M:Mem}{A:List aI}{p:Place}{v:V}(H:AP aL M A p v)(L:Mem):i0 v (M++L)=some (.int .i64 (fM A p).length):=by
 rcases H with⟨rfl,h⟩|⟨b,ver,rfl,h⟩
 . rw[h];rfl
 . exact DS (b6 h L)
theorem AP.aO{aL:bd}{M:Mem}{A:List aI}{p:Place}{v:V}(H:AP aL M A p v){i:Nat}{o:aI}(hi:(fM A p)[i]? =some o)(L:Mem):
 jj 13 v (.int .i64 (i:Int)) (M++L)=some (Pu v i)/\hn 13 true (Pu v i) (M++L)=some (.agg (o.row aL)):=by
 rcases H with⟨rfl,h⟩|⟨b,ver,rfl,h⟩
 . rw[h] at hi;simp at hi
 . have ag:=(bn.1 hi).1
   exact⟨tU (b6 h L) ag (by simp),xW (b6 h L) (by rw[gY,hi];rfl) (aI.len aL o)⟩
theorem Kw{A:List aI}{p:Place}{o:aI}(h:o∈fM A p):o∈A/\o.place=p:=by
 obtain⟨U,af⟩:=oH.1 h;exact⟨U,of_decide_eq_true af⟩
theorem aak{n:Net}{q:Query}{aL:bd}{f h:Nat}{A Q:List aI}{O:List c7}{M:Mem}(H:cA n q aL f h A Q O M)(aC:aL.wf)(bR:aL.hS)(et:∀o∈A,ha o)(l:aI)(ag:ha l)(aj:A.length<=1000000000000)(R:V->Mem->Prop)
 (xF:∀G o,o∈A->o.place=l.place->sX o l->R (.tuple []) (M++G))
 (p4:∀G,dv av KJ (pN tn.results (rq R)) [(0,.ptr f 0),(3,.ptr M.length 0)] (M++.box (l.row aL)::G)):
 hq av tn [.ptr f 0,.agg (l.row aL)] M R:=by
 obtain⟨m,o,E,U,af,ay⟩:=H.box;obtain⟨v,aq,TI⟩:=ay.look l.place;have c4:=fun L=>b6 U L;have fN:∀(K:Mem)(B:a2),(K++[B])[K.length]? =some B:=fun K B=>by simp
 have jL:∀(K:Mem)(B X:a2),(K++[B]).set K.length X=K++[X]:=fun K B X=>by simp
 have Oh:(l.row aL).take 8=l.place.row:=rfl;have CR:V.agg l.place.row=oe l.place:=rfl;simp only[iO] at c4;simp only[hq];have vg:=aq.len;have nq:(fM A l.place).length<=A.length:=List.length_filter_le _ _;simp-implicitDefEqProofs (disch:=omega) only[go_sem,tn,eX,aI.len,fN,c4,Oh,CR,TI,vg];generalize LS:fM A l.place=PN at*;refine ek PN (fun i vs N=>∃G,vs=[.ptr f 0,.ptr M.length 0,v,.int .i64 PN.length,.int .i64 i]/\N=M++.box (l.row aL)::G) ⟨[],rfl,rfl⟩ ?_ ?_;rotate_left
 . rintro vs N ⟨G,rfl,rfl⟩
   simp-implicitDefEqProofs (disch:=omega) only[go_sem,dg];exact p4 G
 rintro i o vs N az hi bf ⟨G,rfl,rfl⟩;obtain⟨TQ,jN⟩:=Kw (A:=A) (p:=l.place) (LS▸dO az);have zv:=fun L=>(aq.aO (by rw[LS];exact az) L).1;have tJ:=fun L=>(aq.aO (by rw[LS];exact az) L).2;have aEA:=aa8 aL aC bR o l (et o TQ) ag;have gm:∀L:Mem,(M++.box (l.row aL)::L)[M.length]? =some (.box (l.row aL)):=fun L=>by rw[e0];rfl
 have a6:∀(B:a2),(M++.box (l.row aL)::(G++[B]))[M.length+(G.length+1)]? =some B:=fun B=>by rw[iP];simp
 have ba:∀(B X:a2),(M++.box (l.row aL)::(G++[B])).set (M.length+(G.length+1)) X=M++.box (l.row aL)::(G++[X]):=fun B X=>by rw[k7];simp
 have pz:∀l:aI,(l.row aL).take 13=l.row aL:=fun _=>rfl;simp-implicitDefEqProofs (disch:=omega) only[go_sem,bf,zv,tJ,eB,gm,a6,ba,aI.len,aI.cell,Aq,pz];refine fI aEA ?_ (by simp only[cS,V.under,aI.under];rfl);rintro w ⟨t,rfl,aT⟩;simp-implicitDefEqProofs (disch:=omega) only[go_sem];refine cp (fun g=>?_) (fun g=>?_)
 . simp-implicitDefEqProofs (disch:=omega) only[go_sem]
   exact xF _ o TQ jN (aT g)
 . simp-implicitDefEqProofs (disch:=omega) only[go_sem]
   exact c6 hi ⟨_,rfl,rfl⟩
end Go.aQ.C
namespace Go.aQ.C
open Go.aQ
theorem aLh{aL:bd}{a b:aI}(h:a.row aL=b.row aL):a.place=b.place:=by
 obtain⟨⟨k,s,r,c,⟨x,y,z,m⟩⟩,_⟩:=a;obtain⟨⟨dj,aM,gA,c0,⟨df,g8,OE,e5⟩⟩,_⟩:=b;simp only[aI.row,List.cons.injEq,V.int.injEq,true_and] at h;obtain⟨U,af,ay,be,bv,b7,dQ,ch,_⟩:=h;subst U af ay be bv b7 dQ ch;rfl
theorem aa5{aL:bd}{M:Mem}{A:List aI}{p p':Place}{b:Nat}{ver k8:Nat}(U:M[b]? =some (.arr 13 ((fM A p).map (aI.row aL)) ver 0))(af:M[b]? =some (.arr 13 ((fM A p').map (aI.row aL)) k8 0))(ay:0<(fM A p).length):p=p':=by
 rw[U] at af;have he:(fM A p).map (aI.row aL)=(fM A p').map (aI.row aL):=by simp only[aV,a2.arr.injEq] at af;exact af.2.1
 obtain⟨a,bk⟩:∃a,(fM A p)[0]? =some a:=⟨(fM A p)[0],by simp⟩;have ag:(fM A p).length=(fM A p').length:=by have:=congrArg List.length he;simpa using this
 obtain⟨c,ar⟩:∃c,(fM A p')[0]? =some c:=⟨(fM A p')[0]'(by omega),by simp⟩;have a4:=congrArg (·[0]?) he;simp only[gY,bk,ar,mI,aV] at a4;rw[<-(Kw (dO bk)).2,<-(Kw (dO ar)).2,aLh a4]
def wk(m:Nat)(M ah:Mem):Prop:=∀(i:Nat)(B:a2),M[i]? =some B->i≠m->(∀R ver fz,B≠.arr 13 R ver fz)->ah[i]? =some B
theorem rV.put{aL:bd}{M:Mem}{m:Nat}{A:List aI}{E:List (Place×V)}(H:rV aL M m A E)(l:aI)(aj:A.length+1<=1000000000000):
 ∃ae i EI w EH ws J6,t6 (.cells [.int,.int,.int,.int,.int,.int,.int,.int]) (.slice [] .nil) (.map m) (oe l.place) M=some (.tuple [ae,.int .i64 i],EI)/\
  d0 false 13 120 ae (.slice [l.row aL] .full) EI=some (w,EH)/\wO (.map m) (.int .i64 i) w EH=some (.undef,ws)/\rV aL ws m (A++[l]) J6/\wk m M ws/\wk m M EI/\wk m M EH:=by
 have vi:m<M.length:=(bn.1 H.map).1;cases tD:E.findIdx? (fun e=>decide (e.1=l.place)) with
 |none=>
  have p4:∀e∈E,e.1≠l.place:=fun e he=>by
   rw[List.findIdx?_eq_none_iff] at tD;simpa using tD e he
  have LV:fM A l.place=[]:=by
   rw[fM,List.filter_eq_nil_iff];intro o az ax;obtain⟨e,he,p5⟩:=ld.1 (H.all o az);exact p4 e he (p5.trans (of_decide_eq_true ax))
  have eL:=aBb (z:=.slice [] .nil) MW H.map p4;have TL:(M.set m (.map (cC oe (E++[(l.place,.slice [] .nil)]))))[m]? =some (.map (cC oe (E++[(l.place,.slice [] .nil)]))):=eC vi;have Ra:∀X,wk m M (M.set m X):=fun X i B hi U _=>by rw[dx (gi U)];exact hi
  have aF0:(M.set m (.map (cC oe (E++[(l.place,.slice [] .nil)])))).length=M.length:=eO;have Fm:=Ra (.map (cC oe (E++[(l.place,.slice [] .nil)])));have Up:∀(i:Nat)(B:a2),i≠m->M[i]? =some B->(M.set m (.map (cC oe (E++[(l.place,.slice [] .nil)]))))[i]? =some B:=fun i B U hi=>by rw[dx (gi U)];exact hi
  generalize M.set m (.map (cC oe (E++[(l.place,.slice [] .nil)])))=N at eL TL aF0 Fm Up;have iS:d0 false 13 120 (.slice [] .nil) (.slice [l.row aL] .full) N=some (.aX N.length 0 0 1,N++[.arr 13 [l.row aL] 0 0]):=by
   simp only[d0,eJ,fq,aI.len,beq_self_eq_true,cond_true,g3];rfl
  have Ms:=b6 TL [.arr 13 [l.row aL] 0 0];have aFN:(E++[(l.place,V.slice [] .nil)])[E.length]? =some (l.place,.slice [] .nil):=by simp
  have zE:=QZ (w:=.aX N.length 0 0 1) Ms aFN rfl;have aDV:(E++[(l.place,V.slice [] .nil)]).set E.length (l.place,.aX N.length 0 0 1)=E++[(l.place,.aX N.length 0 0 1)]:=by
   rw[List.set_append,if_neg (by omega),mH];rfl
  rw[aDV] at zE;have CX:m<(N++[a2.arr 13 [l.row aL] 0 0]).length:=by rw[dT];omega
  have fin:∀(i:Nat)(B:a2),i≠m->N[i]? =some B->((N++[a2.arr 13 [l.row aL] 0 0]).set m (.map (cC oe (E++[(l.place,.aX N.length 0 0 1)]))))[i]? =some B:=fun i B U hi=>by
   rw[dx (gi U)];exact b6 hi _
  refine⟨_,_,_,_,_,_,_,eL,iS,zE,⟨eC CX,?_,?_,?_⟩,fun i B hi U af=>fin i B U (Fm i B hi U af),Fm,fun i B hi U af=>b6 (Fm i B hi U af) _⟩
  . rw[List.map_append,List.nodup_append]
    refine⟨H.DZ,by simp,?_⟩;intro a bk c ar;obtain⟨e,he,rfl⟩:=ld.1 bk;have:c=l.place:=by simpa using ar
    rw[this];exact p4 e he
  . intro e he
    rcases g_.1 he with he|he
    . obtain⟨b,ver,bH,b8,dS⟩:=H.qN e he
      have cr:l.place≠e.1:=fun q=>p4 e he q.symm;have xd:b≠m:=fun q=>by rw[q,H.map] at b8;cases b8
      refine⟨b,ver,?_,?_,?_⟩
      . rw[s9,if_neg cr];exact bH
      . rw[s9,if_neg cr];exact fin b _ xd (Up b _ xd b8)
      . rw[s9,if_neg cr];exact dS
    . have:e=(l.place,.aX N.length 0 0 1):=by simpa using he
      subst this;refine⟨N.length,0,?_,?_,?_⟩
      . rw[s9,if_pos rfl,LV];rfl
      . rw[s9,if_pos rfl,LV,dx (by omega),e0];rfl
      . rw[s9,if_pos rfl,LV];exact Nat.zero_lt_one
  . intro o az
    rw[List.map_append];rcases g_.1 az with az|az
    . exact List.mem_append_left _ (H.all o az)
    . rw[ht.1 az];exact List.mem_append_right _ (by simp)
 |some i=>
  obtain⟨kZ,o7,CH⟩:=List.findIdx?_eq_some_iff_getElem.1 tD;obtain⟨⟨p,v⟩,he⟩:∃e,E[i]? =some e:=⟨E[i],by simp⟩;have ax:p=l.place:=by
   rw[(bn.1 he).2] at o7;exact of_decide_eq_true o7
  subst ax;have TN:=dO he;obtain⟨b,ver,bH,b8,dS⟩:=H.qN _ TN;simp only at bH b8 dS;subst bH;have xd:b≠m:=fun q=>by rw[q,H.map] at b8;cases b8
  have nq:b<M.length:=(bn.1 b8).1;have aK:∀(k:Nat)(e:Place×V),k<i->E[k]? =some e->e.1≠l.place:=fun k e ao aFW=>by
   have:=CH k ao;rw[(bn.1 aFW).2] at this;simpa using this
  have eL:=aBa (z:=.slice [] .nil) MW H.map he aK;have de:(fM A l.place).length<=A.length:=List.length_filter_le _ _;have iS:=s7 (bytes:=120) (r:=l.row aL) b8 (eD _) (aI.len aL l) (by omega);have mo:(fM A l.place).map (aI.row aL)++[l.row aL]=(fM (A++[l]) l.place).map (aI.row aL):=by rw[s9,if_pos rfl];simp
  have TP:(fM A l.place).length+1=(fM (A++[l]) l.place).length:=by rw[s9,if_pos rfl];simp
  rw[mo,TP] at iS;have Ms:(M.set b (.arr 13 ((fM (A++[l]) l.place).map (aI.row aL)) (ver+1) 0))[m]? =some (.map (cC oe E)):=by rw[dx xd];exact H.map
  have zE:=QZ (w:=.aX b (ver+1) 0 (fM (A++[l]) l.place).length) Ms he rfl;have K_:wk m M (M.set b (.arr 13 ((fM (A++[l]) l.place).map (aI.row aL)) (ver+1) 0)):=fun j B ap U af=>by
   rw[dx fun q=>by subst q;rw[b8] at ap;cases ap;exact af _ _ _ rfl];exact ap
  have TF:(E.set i (l.place,V.aX b (ver+1) 0 (fM (A++[l]) l.place).length)).map (·.1)=E.map (·.1):=by
   rw[List.map_set];have:(E.map (·.1))[i]? =some l.place:=by rw[gY,he];rfl
   obtain⟨dw,dn⟩:=bn.1 this;rw[<-dn,List.set_getElem_self]
  refine⟨_,_,_,_,_,_,_,eL,iS,zE,⟨eC (by rw[eO];exact vi),by rw[TF];exact H.DZ,?_,?_⟩,fun j B ap U af=>by rw[dx (gi U)];exact K_ j B ap U af,fun j B ap _ _=>ap,K_⟩
  . intro e sn
    obtain⟨j,ap⟩:=ij sn;by_cases ez:i=j
    . subst ez
      rw[eC kZ] at ap;cases ap;refine⟨b,ver+1,rfl,?_,by rw[<-TP];omega⟩;rw[dx (gi xd),eC nq]
    . rw[dx ez] at ap
      have aE1:=dO ap;have cr:l.place≠e.1:=fun q=>by
       have vO:(E.map (·.1))[j]? =some l.place:=by rw[gY,ap];exact congrArg some q.symm
       have vP:(E.map (·.1))[i]? =some l.place:=by rw[gY,he];rfl
       obtain⟨bU,b4⟩:=bn.1 vO;obtain⟨eS,gQ⟩:=bn.1 vP;rcases Nat.lt_or_gt_of_ne ez with bw|bw
       . exact List.pairwise_iff_getElem.1 H.DZ i j eS bU bw (gQ.trans b4.symm)
       . exact List.pairwise_iff_getElem.1 H.DZ j i bU eS bw (b4.trans gQ.symm)
      have LR:fM (A++[l]) e.1=fM A e.1:=by rw[s9,if_neg cr]
      obtain⟨iM,k8,dw,dn,i3⟩:=H.qN e aE1;have zm:b≠iM:=fun q=>by
       subst q;exact cr (aa5 b8 dn dS)
      have aEw:iM≠m:=fun q=>by rw[q,H.map] at dn;cases dn
      refine⟨iM,k8,?_,?_,?_⟩
      . rw[LR];exact dw
      . rw[LR,dx (gi aEw),dx zm];exact dn
      . rw[LR];exact i3
  . intro o az
    rw[TF];rcases g_.1 az with az|az
    . exact H.all o az
    . rw[ht.1 az]
      exact ld.2 ⟨_,TN,rfl⟩
end Go.aQ.C
namespace Go.aQ.C
open Go.aQ
theorem wk.box{m:Nat}{M ah:Mem}{E:List (V×V)}(a:wk m M ah)(hm:M[m]? =some (.map E)){i:Nat}{cs:List V}(hi:M[i]? =some (.box cs)):ah[i]? =some (.box cs):=
 a i _ hi (fun e=>by rw[e,hm] at hi;cases hi) (by intro _ _ _ e;cases e)
theorem aal{n:Net}{q:Query}{aL:bd}{f h:Nat}{A Q:List aI}{O:List c7}{N:Mem}(H:cA n q aL f h A Q O N)(l:aI){e4:Nat}(ag:N[e4]? =some (.box (l.row aL)))(et:A.length+1<=1000000000000)(gq:Q.length+1<=1000000000000)(R:V->Mem->Prop)
 (fO:∀dP,cA n q aL f h (A++[l]) (Q++[l]) O dP->ea f h N dP->R (.tuple []) dP):
 dv av KJ (pN tn.results (rq R)) [(0,.ptr f 0),(3,.ptr e4 0)] N:=by
 obtain⟨⟨m,o,E,U,af,ay⟩,be⟩:=H;obtain⟨ae,i,EI,w,EH,ws,J6,aA2,aAQ,aAR,bY,wY,Ra,K_⟩:=ay.put l et;have bb:=ay.map;have aFX:=wY.box bb ag;have Te:=wY.box bb U;have GV:mL aL ws h Q:=by
  refine be.fJ ?_ fun j R ver ap=>?_
  . obtain⟨c,⟨bH,_⟩|⟨a,ver,l,b3,bH,_⟩⟩:=be
    . rw[wY.box bb bH,bH]
    . rw[wY.box bb bH.h,bH.h]
  . rw[wY j _ ap (fun e=>by rw[e,bb] at ap;cases ap) (by intro _ _ _ e;cases e),ap]
 have aDP:qI ws o O:=af.fJ fun j R ver ap=>wY j _ ap (fun e=>by rw[e,bb] at ap;cases ap) (by intro _ _ _ e;cases e);have xx:=Z4 GV l gq;have hj:ea f h N ws:=fun j cs ap _ _=>wY.box bb ap;have Oh:(l.row aL).take 8=l.place.row:=rfl;have pz:(l.row aL).take 13=l.row aL:=rfl;have CR:V.agg l.place.row=oe l.place:=rfl;have pU:=U;simp only[iO] at pU;have u3:=Te;have a7:∀c:Int,gU [.int .i64 0,.int .i64 0,.int .i64 0,.int .i64 0,.int .i64 0,.int .i64 0,.int .i64 0,.int .i64 0,.int .i64 0,.int .i64 0,.int .i64 0,.dm,.slice [] .nil] 0 (l.row aL)=l.row aL:=fun _=>rfl;simp-implicitDefEqProofs (disch:=omega) only[go_sem,↓br 22,↓br 24,↓br 25,eX,pU,ag,aI.len,aI.pure,Oh,pz,CR,Aq,aA2,aAQ,aAR,u3,aFX];refine ew xx ?_;rintro v dP ⟨rfl,rh,cl⟩;simp-implicitDefEqProofs (disch:=omega) only[go_sem,tn];refine fO dP ⟨⟨m,o,J6,cl _ _ Te (fun e=>?_) (by intro _ _ _ e;cases e),aDP.fJ fun j R ver ap=>cl j _ ap (fun e=>?_) (by intro _ _ _ e;cases e),bY.fJ ?_ fun j R ver ap=>cl j _ ap (fun e=>?_) (by intro _ _ _ e;cases e)⟩,rh⟩ (hj.trans (ea.Jh cl))
 . obtain⟨c,⟨bH,_⟩|⟨a,ver,l,b3,bH,_⟩⟩:=be
   . rw[e,bH] at U;cases U
   . rw[e,bH.h] at U;cases U
 . obtain⟨c,⟨bH,_⟩|⟨a,ver,l,b3,bH,_⟩⟩:=GV
   . rw[e,bH] at ap;cases ap
   . rw[e,bH.h] at ap;cases ap
 . rw[cl _ _ bY.map (fun e=>?_) (by intro _ _ _ e;cases e),bY.map]
   obtain⟨c,⟨bH,_⟩|⟨a,ver,l,b3,bH,_⟩⟩:=GV
   . rw[<-e,bY.map] at bH;cases bH
   . have b8:=bH.h;rw[<-e,bY.map] at b8;cases b8
 . obtain⟨c,⟨bH,_⟩|⟨a,ver,l,b3,bH,_⟩⟩:=GV
   . rw[e,bH] at ap;cases ap
   . rw[e,bH.h] at ap;cases ap
end Go.aQ.C
namespace Go.aQ.C
open Go.aQ
def nV(A Q:List aI)(l:aI)(c2 cI:List aI):Prop:=(c2=A/\cI=Q/\∃o∈A,o.place=l.place/\sX o l)∨(c2=A++[l]/\cI=Q++[l])
def gf:List aI->List aI->List aI->List aI->List aI->Prop
 |A,Q,[],c2,cI=>c2=A/\cI=Q
 |A,Q,l::ls,c2,cI=>∃d_ eg,nV A Q l d_ eg/\gf d_ eg ls c2 cI
theorem nV.len{A Q c2 cI:List aI}{l:aI}(h:nV A Q l c2 cI):c2.length<=A.length+1/\cI.length<=Q.length+1:=by
 rcases h with⟨rfl,rfl,_⟩|⟨rfl,rfl⟩
 . exact⟨by omega,by omega⟩
 . exact⟨by simp,by simp⟩
theorem nV.all{A Q c2 cI:List aI}{l:aI}(h:nV A Q l c2 cI){P:aI->Prop}(et:∀o∈A,P o)(ag:P l):∀o∈c2,P o:=by
 rcases h with⟨rfl,rfl,_⟩|⟨rfl,rfl⟩
 . exact et
 . intro o az
   rcases g_.1 az with az|az
   . exact et o az
   . rw[ht.1 az];exact ag
theorem nV.Jy{A Q c2 cI:List aI}{l:aI}(h:nV A Q l c2 cI){P:aI->Prop}(gq:∀o∈Q,P o)(ag:P l):∀o∈cI,P o:=by
 rcases h with⟨rfl,rfl,_⟩|⟨rfl,rfl⟩
 . exact gq
 . intro o az
   rcases g_.1 az with az|az
   . exact gq o az
   . rw[ht.1 az];exact ag
theorem gf.len:∀{ls A Q c2 cI:List aI},gf A Q ls c2 cI->c2.length<=A.length+ls.length/\cI.length<=Q.length+ls.length
 |[],A,Q,c2,cI,h=>by obtain⟨rfl,rfl⟩:=h;exact⟨cF _,cF _⟩
 |l::ls,A,Q,c2,cI,⟨d_,eg,U,af⟩=>by
  have a:=U.len;have b:=gf.len af;simp only[dz];omega
theorem gf.all{P:aI->Prop}:∀{ls A Q c2 cI:List aI},gf A Q ls c2 cI->(∀o∈A,P o)->(∀o∈ls,P o)->∀o∈c2,P o
 |[],_,_,_,_,h,et,_=>by obtain⟨rfl,rfl⟩:=h;exact et
 |l::ls,_,_,_,_,⟨_,_,U,af⟩,et,ag=>gf.all af (U.all et (ag l (List.mem_cons_self ..))) fun o az=>ag o (oG _ az)
theorem gf.Jy{P:aI->Prop}:∀{ls A Q c2 cI:List aI},gf A Q ls c2 cI->(∀o∈Q,P o)->(∀o∈ls,P o)->∀o∈cI,P o
 |[],_,_,_,_,h,gq,_=>by obtain⟨rfl,rfl⟩:=h;exact gq
 |l::ls,_,_,_,_,⟨_,_,U,af⟩,gq,ag=>gf.Jy af (U.Jy gq (ag l (List.mem_cons_self ..))) fun o az=>ag o (oG _ az)
theorem gf.app:∀{ls U9 A Q d_ eg c2 cI:List aI},gf A Q ls d_ eg->gf d_ eg U9 c2 cI->gf A Q (ls++U9) c2 cI
 |[],_,_,_,_,_,_,_,h,k=>by obtain⟨rfl,rfl⟩:=h;exact k
 |_::_,_,_,_,_,_,_,_,⟨yE,yP,U,af⟩,k=>⟨yE,yP,U,gf.app af k⟩
theorem gf.one{A Q c2 cI:List aI}{l:aI}(h:nV A Q l c2 cI):gf A Q [l] c2 cI:=⟨c2,cI,h,rfl,rfl⟩
theorem NV{n:Net}{q:Query}{aL:bd}{f h:Nat}{A Q:List aI}{O:List c7}{M:Mem}(H:cA n q aL f h A Q O M)(aC:aL.wf)(bR:aL.hS)(et:∀o∈A,ha o)(l:aI)(ag:ha l)(aj:A.length+1<=1000000000000)(gq:Q.length+1<=1000000000000):
 cj av zX [.ptr f 0,.agg (l.row aL)] M (fun v ah=>v=.tuple []/\ea f h M ah/\∃c2 cI,cA n q aL f h c2 cI O ah/\nV A Q l c2 cI):=by
 refine hx Su (by simp[tn]) ?_;refine aak H aC bR et l ag (by omega) _ (fun G o U af ay=>⟨rfl,ea.app f h M G,A,Q,H.app G,.inl ⟨rfl,rfl,o,U,af,ay⟩⟩) fun G=>?_;refine aal (H.app _) l (by rw[e0];rfl) aj gq _ fun dP db cl=>?_;exact⟨rfl,(ea.app f h M _).trans cl,_,_,db,.inr ⟨rfl,rfl⟩⟩
theorem OB(aZ:List ca)(c:c3)(x:ca)(ag:aZ.length<=1000):bQ av zZ [.slice (aZ.map ca.row) c,.agg x.row] (fun v=>v=.slice ((aZ++[x]).map ca.row) .cv):=by
 refine bZ SG (by simp[Cx]) ?_;have pa:∀(zero:List V)(M:Mem),m1 zero 9 72 (.int .i64 0) (.int .i64 ((aZ.length:Int)+1)) M=some (.aX M.length 0 0 0,M++[.arr 9 [] 0 0]):=fun zero M=>by
  have bU:decide ((0:Int)<=0)=true:=rfl;have b4:decide ((0:Int)<=(aZ.length:Int)+1)=true:=decide_eq_true (by omega);have cG:decide (((aZ.length:Int)+1)*((72:Nat):Int)<=2^48)=true:=decide_eq_true (by omega);have dl:decide ((aZ.length:Int)+1<2^62)=true:=decide_eq_true (by omega);simp only[m1,bU,b4,cG,dl,eR,cond_true];rfl
 have L4:decide (aZ.length*144<=2^48)=true:=decide_eq_true (by omega);have kY:decide ((aZ.length+1)*144<=2^48)=true:=decide_eq_true (by omega);have ce:=u9 (f:=ca.row) (n:=9) (fun _=>rfl) aZ;have xb:∀B:a2,d0 false 9 72 (.aX 1 0 0 0) (.slice (aZ.map ca.row) c) [B,.arr 9 [] 0 0]=some (.aX 1 1 0 aZ.length,[B,.arr 9 (aZ.map ca.row) 1 0]):=fun B=>by
  simp only[PH,ce,cond_true,List.getElem?_cons_succ,ja,beq_self_eq_true,gZ,eR,ev,eD,Nat.reduceMul,L4,List.nil_append];rfl
 have u2:∀B:a2,d0 false 9 72 (.aX 1 1 0 aZ.length) (.slice [x.row] .full) [B,.arr 9 (aZ.map ca.row) 1 0]=some (.aX 1 2 0 (aZ.length+1),[B,.arr 9 ((aZ++[x]).map ca.row) 2 0]):=fun B=>by
  rw[List.map_append];exact s7 rfl (eD _) rfl (by omega)
 have aT:((aZ++[x]).map ca.row).take (aZ.length+1)=(aZ++[x]).map ca.row:=g1 (by simp);have hle:decide (aZ.length+1<=((aZ++[x]).map ca.row).length)=true:=decide_eq_true (by simp);simp only[ca.row] at u2;simp-implicitDefEqProofs (disch:=omega) only[go_sem,Cx,ca.row,pa,xb,u2];rw[aT]
def aJQ(n:Net)(q:Query)(l:aI):c7:=⟨l.aZ,.cv,(lp n q l.aZ).1,(lp n q l.aZ).2.1,.cv⟩
def tk(n:Net)(q:Query)(l:aI):List c7:=if(lp n q l.aZ).2.2=0 then[aJQ n q l] else[]
theorem qI.put{M:Mem}{v:V}{O:List c7}(H:qI M v O)(o:c7)(aj:O.length+1<=1000000000000):∃b ver ah,d0 false 7 88 v (.slice [o.row] .full) M=some (.aX b ver 0 (O.length+1),ah)/\qI ah (.aX b ver 0 (O.length+1)) (O++[o])/\
 ∀(i:Nat)(B:a2),M[i]? =some B->(∀R ver fz,B≠.arr 7 R ver fz)->ah[i]? =some B:=by
 rcases H with⟨rfl,rfl⟩|⟨b,ver,rfl,af,ay⟩
 . refine⟨_,_,_,?_,.inr ⟨M.length,0,rfl,e0 M [.arr 7 [o.row] 0 0],Nat.zero_lt_one⟩,fun i B U _=>b6 U _⟩
   have ag:(o.row.length==7)=true:=rfl;simp only[d0,eJ,fq,ag,cond_true,g3];rfl
 . have eU:=s7 (bytes:=88) (r:=o.row) af (eD _) rfl (by omega)
   refine⟨_,_,_,eU,.inr ⟨b,ver+1,by rw[dT];rfl,?_,by simp⟩,fun i B U bY=>?_⟩
   . rw[eC (bn.1 af).1,List.map_append];rfl
   . rw[dx fun e=>by subst e;rw[af] at U;cases U;exact bY _ _ _ rfl];exact U
def J1:ca:=⟨false,0,0,0,0,0,0,0,false⟩
theorem aLr{n:Net}{q:Query}{aL:bd}{f h:Nat}{A Q:List aI}{O:List c7}{M:Mem}(H:cA n q aL f h A Q O M)(aK:n.wf)(ok:g2 n)(l:aI)(ag:l.aZ.length<=1000)(hw:∀x∈l.aZ,x.wf)(aj:O.length+1<=1000000000000):
 cj av xO [.ptr f 0,.agg (l.row aL)] M (fun v ah=>v=.tuple []/\ea f h M ah/\cA n q aL f h A Q (O++tk n q l) ah):=by
 obtain⟨⟨m,o,E,U,af,ay⟩,be⟩:=H;have aC:=(bn.1 U).1;have p9:=OB l.aZ l.tag J1 ag;have sk:=XT n q l.aZ .cv aK ok ag hw;have eF:∀N,g7 9 (.slice ((l.aZ++[J1]).map ca.row) .cv) none (some (.int .i64 (l.aZ.length:Nat))) none N=some (.slice (l.aZ.map ca.row) .cv):=fun N=>by
  rw[aLV 9 _ _ _ _ _ (by omega) (by simp;omega) (u9 (f:=ca.row) (fun _=>rfl) _)];simp[nm]
 have pQ:(l.row aL)[12]? =some (.slice (l.aZ.map ca.row) l.tag):=rfl;have cq:=fun L=>b6 U L;have hc:=fun L=>e0 M L;have eS:=fun L=>iP M L;have s0:=fun L=>kg M L;have s1:=fun L=>k7 M L;simp only[iO] at cq;simp only[Net.row,Query.row] at sk;simp only[J1,ca.row] at p9;refine hx Sy (by simp[Cp]) ?_;simp only[hq];simp-implicitDefEqProofs (disch:=omega) only[go_sem,Cp,↓br 11,aI.len,hc,pQ];first|refine b0 (p9) ?_|refine bV (p9) ?_
 simp only[J1] at eF;simp-implicitDefEqProofs (disch:=omega) only[go_sem,hc,eS,s1,eB,pQ,eF];refine⟨⟨bQ.call p9 rfl fun x ab _=>⟨ab,rfl⟩,fun h=>by cases h⟩,?_⟩;have CP:tk n q l=if(lp n q l.aZ).2.2=0 then[⟨l.aZ,.cv,(lp n q l.aZ).1,(lp n q l.aZ).2.1,.cv⟩] else[]:=rfl
 rw[CP];generalize lp n q l.aZ=r at sk⊢;simp-implicitDefEqProofs (disch:=omega) only[go_sem,↓br 5,↓br 10,eX,cq,eS];first|refine b0 (sk) ?_|refine bV (sk) ?_
 simp only[A5,nX.row] at sk;simp-implicitDefEqProofs (disch:=omega) only[go_sem,eX,cq,eS,s1,eB,A5,nX.row];refine⟨⟨bQ.call sk rfl fun x ab _=>⟨ab,rfl⟩,fun h=>by cases h⟩,?_⟩;simp-implicitDefEqProofs (disch:=omega) only[go_sem,↓br 9];refine a5 (fun g=>?_) (fun g=>?_);rotate_left
 . simp-implicitDefEqProofs (disch:=omega) only[go_sem]
   rw[if_neg g,fU];exact⟨ea.app f h M _,(cA.app ⟨⟨m,o,E,U,af,ay⟩,be⟩ _)⟩
 rw[if_pos g];have iT:E7 r=.cv:=if_pos g;rw[iT];obtain⟨N,db⟩:∃N,N=M++[a2.box (l.row aL),.box [.slice (l.aZ.map ca.row) .cv],.box [.int .i64 r.1.cB,.int .i64 r.1.c_,.int .i64 r.1.b1,.int .i64 r.1.tj,.int .i64 r.1.walk]]:=⟨_,rfl⟩;rw[<-db];have vO:N[M.length+1]? =some (.box [.slice (l.aZ.map ca.row) .cv]):=by rw[db,eS];rfl
 have vP:N[M.length+2]? =some (.box [.int .i64 r.1.cB,.int .i64 r.1.c_,.int .i64 r.1.b1,.int .i64 r.1.tj,.int .i64 r.1.walk]):=by rw[db,eS];rfl
 have x8:N[f]? =some (iO n q m h o):=by rw[db];exact b6 U _
 have Ls:ea f h M N:=by rw[db];exact ea.app f h M _
 have aD9:qI N o O:=af.fJ fun i R ver hi=>by rw[db];exact b6 hi _
 have LC:rV aL N m A E:=ay.fJ (by rw[db,b6 ay.map,ay.map]) fun i R ver hi=>by rw[db];exact b6 hi _
 have S4:mL aL N h Q:=by rw[db];exact be.app _
 clear db cq hc eS s0 s1;obtain⟨aOL,aOM,dP,eU,aD8,cl⟩:=aD9.put ⟨l.aZ,.cv,r.1,r.2.1,.cv⟩ aj;have t0:=cl _ _ x8 (by intro _ _ _ e;cases e);simp only[iO] at x8 t0;simp only[c7.row] at eU;have gS:f<dP.length:=(bn.1 t0).1;simp-implicitDefEqProofs (disch:=omega) only[go_sem,↓br 7,eX,x8,vO,vP,eU,t0];have aDy:ea f h N dP:=fun i cs hi _ _=>cl i _ hi (by intro _ _ _ e;cases e);refine⟨Ls.trans (aDy.trans fun i cs hi aFO _=>by rw[dx (gi aFO)];exact hi),⟨m,_,E,eC gS,aD8.fJ fun i R ver hi=>?_,LC.fJ ?_ fun i R ver hi=>?_⟩,S4.fJ ?_ fun i R ver hi=>?_⟩
 . rw[dx (fun e=>by subst e;rw[t0] at hi;cases hi)];exact hi
 . have hm:=cl _ _ LC.map (by intro _ _ _ e;cases e)
   rw[dx (fun e=>by subst e;rw[t0] at hm;cases hm),hm,LC.map]
 . have mm:=cl _ _ hi (by intro _ _ _ e;cases e)
   rw[dx (fun e=>by subst e;rw[t0] at mm;cases mm)];exact mm
 . obtain⟨c,⟨bH,_⟩|⟨a,ver,l,b3,bH,_⟩⟩:=S4
   . have hm:=cl _ _ bH (by intro _ _ _ e;cases e)
     rw[dx (fun e=>by subst e;rw[t0] at hm;cases hm),hm,bH]
   . have hm:=cl _ _ bH.h (by intro _ _ _ e;cases e)
     rw[dx (fun e=>by subst e;rw[t0] at hm;cases hm),hm,bH.h]
 . have mm:=cl _ _ hi (by intro _ _ _ e;cases e)
   rw[dx (fun e=>by subst e;rw[t0] at mm;cases mm),mm,hi]
end Go.aQ.C
namespace Go.aQ.C
open Go.aQ
def v4(n:Net)(i k:Int):Bool:=n.b9.any fun x=>x.stay&&(decide (x.src=i)&&decide (x.hY=k))
def a1.kh(r:a1)(z:Int):a1:={r with gb:=qk .i64 r.gb ((2^z.toNat:Nat):Int)}
def a1.mode(r:a1)(z:Int):a1:={r with eP:=qk .i64 r.eP ((2^z.toNat:Nat):Int)}
def a1.at(n:Net)(cR:a1)(c:cd):a1:={cR.kh (rT n c.stop) with c_:=c.c_}
def uk(i b:Nat)(stay:Bool)(B c:cd)(k:Nat):ca:=⟨true,i,b,k,B.stop,c.stop,B.cB,c.c_,stay⟩
def m9(l:aI)(i b:Nat)(stay:Bool)(B c:cd)(k:Nat)(cR:a1):aI:=
 {l with place:=⟨1,c.stop,i,k,cR⟩,time:=c.c_,aZ:=l.aZ++[uk i b stay B c k],tag:=.cv}
def nQ(n:Net)(l:aI)(i b:Nat)(stay:Bool)(B:cd):List cd->Nat->a1->List aI
 |[],_,_=>[]
 |c::cs,k,cR=>(if c.gP||v4 n i k then[m9 l i b stay B c k (cR.at n c)] else[])++nQ n l i b stay B cs (k+1) (cR.at n c)
def uj(n:Net)(r:bS)(B:cd)(cR:a1):a1:=(cR.mode (DY n r.iu)).kh (rT n B.stop)
def m_(n:Net)(l:aI)(i b:Nat)(stay:Bool)(cR:a1):List aI:=match n.runs[i]? with
 |some r=>match r.calls[b]? with
  |some B=>nQ n l i b stay B (r.calls.drop (b+1)) (b+1) (uj n r B cR)
  |none=>[]
 |none=>[]
def qJ(M N:Mem):Prop:=∃G,N=M++G
theorem qJ.refl(M:Mem):qJ M M:=⟨[],by simp⟩
theorem qJ.app{M N:Mem}(h:qJ M N)(L:Mem):qJ M (N++L):=by
 obtain⟨G,rfl⟩:=h;exact⟨G++L,eB ..⟩
theorem aL8{n:Net}{q:Query}{aL:bd}{f h:Nat}{A Q:List aI}{O:List c7}{M:Mem}(H:cA n q aL f h A Q O M)(ag:n.b9.length<=100000)(i k:Int):
 cj av Iy [.ptr f 0,.int .i64 i,.int .i64 k] M (fun v ah=>v=.bool (v4 n i k)/\qJ M ah):=by
 obtain⟨m,o,E,U,af,ay⟩:=H.box;have cq:=fun L=>b6 U L;have aj:=U;simp only[iO] at cq aj;have fN:∀(K:Mem)(B:a2),(K++[B])[K.length]? =some B:=fun K B=>by simp
 have jL:∀(K:Mem)(B X:a2),(K++[B]).set K.length X=K++[X]:=fun K B X=>by simp
 refine hx SC (by simp[Ct]) ?_;simp only[hq];simp-implicitDefEqProofs (disch:=omega) only[go_sem,Ct,eX,aj];refine ek n.b9 (fun j vs N=>((n.b9.take j).any fun x=>x.stay&&(decide (x.src=i)&&decide (x.hY=k)))=false/\vs=[.int .i64 i,.int .i64 k,.slice (n.b9.map dA.row) n.lc,.int .i64 n.b9.length,.int .i64 j]/\qJ M N) ⟨rfl,rfl,qJ.refl M⟩ ?_ ?_;rotate_left
 . rintro vs N ⟨bk,rfl,ax⟩
   rw[g0] at bk;simp-implicitDefEqProofs (disch:=omega) only[go_sem,dg];exact⟨bk.symm,ax⟩
 rintro j x vs N ab ap mn ⟨bk,rfl,ax⟩;have mV:((n.b9.take (j+1)).any fun x=>x.stay&&(decide (x.src=i)&&decide (x.hY=k)))=(x.stay&&(decide (x.src=i)&&decide (x.hY=k))):=by
  rw[hR,ab,List.any_append,bk];simp
 have xF:(x.stay&&(decide (x.src=i)&&decide (x.hY=k)))=true->v4 n i k=true:=fun h=>List.any_eq_true.2 ⟨x,dO ab,h⟩;simp-implicitDefEqProofs (disch:=omega) only[go_sem,mn,ab,dA.row,fN,jL];refine cp (fun aW=>?_) (fun aW=>?_);rotate_left
 . simp-implicitDefEqProofs (disch:=omega) only[go_sem]
   exact c6 ap ⟨by rw[mV,aW];rfl,rfl,ax.app _⟩
 simp-implicitDefEqProofs (disch:=omega) only[go_sem,fN];refine a5 (fun a9=>?_) (fun a9=>?_);rotate_left
 . simp-implicitDefEqProofs (disch:=omega) only[go_sem]
   exact c6 ap ⟨by rw[mV,aW,decide_eq_false a9];rfl,rfl,ax.app _⟩
 simp-implicitDefEqProofs (disch:=omega) only[go_sem,fN];refine a5 (fun bN=>?_) (fun bN=>?_)
 . simp-implicitDefEqProofs (disch:=omega) only[go_sem]
   exact⟨(xF (by rw[aW,decide_eq_true a9,decide_eq_true bN];rfl)).symm,ax.app _⟩
 . simp-implicitDefEqProofs (disch:=omega) only[go_sem]
   exact c6 ap ⟨by rw[mV,aW,decide_eq_true a9,decide_eq_false bN];rfl,rfl,ax.app _⟩
end Go.aQ.C
namespace Go.aQ.C
open Go.aQ
theorem N2(z:Int)(a4:0<=z)(U:z<=15):dB .shl .none (.int .i64 1) (.int .i64 z)=some (.int .i64 ((2^z.toNat:Nat):Int)):=by
 have af:2^z.toNat<=2^15:=Nat.pow_le_pow_right (by omega) (by omega);have hw:∀w:Nat,w<=2^15->IntKind.i64.wrap (w:Int)=(w:Int):=fun w hw=>qv _ (by omega) (by omega);have hw:=hw _ af;show ox .shl .i64 1 z=_;unfold ox;rw[decide_eq_false (by omega)];have a6:min z.toNat IntKind.i64.bits=z.toNat:=by
  show min z.toNat 64=z.toNat;omega
 have ba:(1:Int)*2^z.toNat=((2^z.toNat:Nat):Int):=by simp
 simp only[cond_false,a6,ba,hw]
theorem E5{n:Net}(ok:g2 n){i k:Nat}{r:bS}{c:cd}(al:n.runs[i]? =some r)(ar:r.calls[k]? =some c):∃s,n.stops[c.stop.toNat]? =some s/\0<=c.stop/\0<=s.kh/\s.kh<=15/\rT n c.stop=s.kh/\r7 n c.stop=s.change/\0<=s.change/\s.change<=3600:=by
 obtain⟨U,af⟩:=((ok.ok.runs.2 i r al).2.2.2.2.2.1.2.2 k c ar).1;obtain⟨s,ak⟩:∃s,n.stops[c.stop.toNat]? =some s:=⟨n.stops[c.stop.toNat]'(by omega),by simp⟩;have ay:=ok.ok.stops.2 _ s ak;exact⟨s,ak,U,ay.2.1.1,ay.2.1.2,by simp only[rT,ak],by simp only[r7,ak],ay.2.2.1.1,ay.2.2.1.2⟩
theorem aLc{n:Net}(ok:g2 n){i:Nat}{r:bS}(al:n.runs[i]? =some r):∃y,n.fK[r.iu.toNat]? =some y/\0<=r.iu/\0<=y.mode/\y.mode<=7/\DY n r.iu=y.mode:=by
 obtain⟨U,af⟩:=(ok.ok.runs.2 i r al).2.2.2.2.1;obtain⟨y,aD⟩:∃s,n.fK[r.iu.toNat]? =some s:=⟨n.fK[r.iu.toNat]'(by omega),by simp⟩;have ay:=ok.ok.fK.2 _ y aD;exact⟨y,aD,U,ay.2.1.1,ay.2.1.2,by simp only[DY,aD]⟩
theorem NY{M:Mem}{i k:Nat}(h:k≠i)(X:a2)(L:Mem)(hi:i<M.length):(M.set i X++L)[k]? =(M++L)[k]? :=by
 rw[<-nN hi,dx (gi h)]
theorem WW{n:Net}{q:Query}{aL:bd}{f h:Nat}{A Q:List aI}{O:List c7}{N:Mem}(H:cA n q aL f h A Q O N)(aC:aL.wf)(bR:aL.hS)(et:∀o∈A,ha o)(l:aI)(ag:ha l)(o9:l.aZ.length+1<=1000)
 {i b k:Nat}{r:bS}{B c:cd}(bY:r.calls[b]? =some B)(stay:Bool)(rd:a1)(hg:A.length+1<=1000000000000)(io:Q.length+1<=1000000000000){e4 Qw:Nat}(aE:N[e4]? =some (.box (l.row aL)))(bH:N[e4+1]? =some (.box rd.row))(b8:N[e4+2]? =some (.box r.row))(Uq:N[Qw]? =some (.box c.row))
 (s:aH)(D4:aY s 0=.ptr f 0)(f3:aY s 2=.int .i64 i)(sF:aY s 3=.int .i64 b)(Ny:aY s 4=.bool stay)(Nz:aY s 7=.ptr e4 0)(Nv:aY s 11=.ptr (e4+1) 0)(Nw:aY s 12=.ptr (e4+2) 0)(Nx:aY s 13=.int .i64 k)(Vn:aY s 14=.ptr Qw 0)
 (P:Exit->aH->Mem->Prop)(LK:∀dP c2 cI,cA n q aL f h c2 cI O dP->ea f h N dP->nV A Q (m9 l i b stay B c k rd) c2 cI->P .normal [(0,.ptr f 0),(2,.int .i64 i),(3,.int .i64 b),(4,.bool stay),(7,.ptr e4 0),(11,.ptr (e4+1) 0),(12,.ptr (e4+2) 0),(13,.int .i64 k)] dP):
 dv av Qc P s N:=by
 have q0:=fun L=>b6 aE L;have aW:=fun L=>b6 bH L;have a9:=fun L=>b6 b8 L;have gc:=fun L=>b6 Uq L;have gm:=fun L=>e0 N L;have s0:=fun L=>kg N L;have p9:=OB l.aZ l.tag (uk i b stay B c k) (by omega);have pQ:(l.row aL)[12]? =some (.slice (l.aZ.map ca.row) l.tag):=rfl;have iq:l.row aL=[.int .i64 l.place.kind,.int .i64 l.place.stop,.int .i64 l.place.run,.int .i64 l.place.cM,.int .i64 l.place.cR.cB,.int .i64 l.place.cR.c_,.int .i64 l.place.cR.gb,.int .i64 l.place.cR.eP,
  .int .i64 l.time,.int .i64 l.b1,.int .i64 l.walk,f7 aL l.base,.slice (l.aZ.map ca.row) l.tag]:=rfl;have pz:(l.row aL).take 13=l.row aL:=rfl;simp only[a1.row] at aW bH;simp only[bS.row] at a9 b8;simp only[cd.row] at gc Uq;simp only[uk,ca.row] at p9;obtain⟨cU,fa⟩:∃cU:aI,cU={l with place:=⟨1,c.stop,i,k,rd⟩}:=⟨_,rfl⟩;obtain⟨eW,gT⟩:∃eW:aI,eW={l with place:=⟨1,c.stop,i,k,rd⟩,time:=c.c_}:=⟨_,rfl⟩;obtain⟨mv,tI⟩:∃mv:aI,mv=m9 l i b stay B c k rd:=⟨_,rfl⟩;have t1:((((((((l.row aL).set 0 (.int .i64 1)).set 1 (.int .i64 c.stop)).set 2 (.int .i64 i)).set 3 (.int .i64 k)).set 4 (.int .i64 rd.cB)).set 5 (.int .i64 rd.c_)).set 6 (.int .i64 rd.gb)).set 7 (.int .i64 rd.eP)=cU.row aL:=by rw[fa];rfl
 have t2:(cU.row aL).set 8 (.int .i64 c.c_)=eW.row aL:=by rw[fa,gT];rfl
 have t3:(eW.row aL).set 12 (.slice ((l.aZ++[uk i b stay B c k]).map ca.row) .cv)=mv.row aL:=by rw[gT,tI];rfl
 have aD0:ha mv:=by rw[tI];exact ag
 simp only[uk] at t3;have aMu:(mv.row aL).take 13=mv.row aL:=rfl;clear fa gT;simp-implicitDefEqProofs (disch:=omega) only[go_sem,↓br 21,↓br 23,↓br 25,↓br 27,↓br 30,↓br 31,↓br 32,↓br 33,D4,f3,sF,Ny,Nz,Nv,Nw,Nx,Vn,aE,q0,aW,a9,gc,gm,s0,aI.len,aI.cell,Aq,pz,t1,t2,pQ,bY,cd.row];first|refine b0 (p9) ?_|refine bV (p9) ?_
 simp-implicitDefEqProofs (disch:=omega) only[go_sem,↓br 29,D4,f3,sF,Ny,Nz,Nv,Nw,Nx,Vn,gm,s0,aI.len,t3,aMu];refine ew (NV (H.app _) aC bR et mv aD0 hg io) ?_;rintro v dP ⟨rfl,cl,c2,cI,bh,jf⟩;simp-implicitDefEqProofs (disch:=omega) only[go_sem,D4,f3,sF,Ny,Nz,Nv,Nw,Nx];exact LK dP c2 cI bh ((ea.app f h N _).trans cl) (tI▸jf)
theorem JQ{n:Net}{q:Query}{aL:bd}{f h:Nat}{A Q:List aI}{O:List c7}{M:Mem}(H:cA n q aL f h A Q O M)(ok:g2 n)(aC:aL.wf)(bR:aL.hS)(et:∀o∈A,ha o)(l:aI)(ag:ha l)(o9:l.aZ.length+1<=1000)
 {i b:Nat}{r:bS}{B:cd}(al:n.runs[i]? =some r)(bY:r.calls[b]? =some B)(stay:Bool)(cR:a1)(hg:A.length+(m_ n l i b stay cR).length<=1000000000000)(io:Q.length+(m_ n l i b stay cR).length<=1000000000000):
 cj av DE [.ptr f 0,.agg (l.row aL),.int .i64 i,.int .i64 b,.bool stay,.agg cR.row] M (fun v ah=>v=.tuple []/\ea f h M ah/\∃c2 cI,cA n q aL f h c2 cI O ah/\gf A Q (m_ n l i b stay cR) c2 cI):=by
 obtain⟨m,o,E,U,af,ay⟩:=H.box;obtain⟨aOl,CQ,o6⟩:=H.uY;have cq:=fun L=>b6 U L;simp only[iO] at cq;have hc:=fun L=>e0 M L;have eS:=fun L=>iP M L;have s0:=fun L=>kg M L;have s1:=fun L=>k7 M L;obtain⟨y,aD,Es,qw,Et,aNE⟩:=aLc ok al;obtain⟨V9,aGP,J0,h0,g9,aNF,_⟩:=E5 ok al bY;have aGU:=N2 y.mode qw (by omega);have aGV:=N2 V9.kh h0 g9;have hlen:=(ok.ok.runs.2 i r al).2.2.2.2.2.1.2.1;have nq:=(bn.1 bY).1;have aG6:m_ n l i b stay cR=nQ n l i b stay B (r.calls.drop (b+1)) (b+1) (uj n r B cR):=by simp only[m_,al,bY]
 rw[aG6] at hg io⊢;refine hx SD (by simp[Cu]) ?_;simp only[hq];simp-implicitDefEqProofs (disch:=omega) only[go_sem,Cu,eX,aI.len,a1.row,cq,eS,s1,eB,al,bS.row,aD,fi.row,bY,cd.row,aGP,Stop.row,aGU,aGV];obtain⟨N,db⟩:∃N,N=M++[a2.box (l.row aL),.box (uj n r B cR).row,.box r.row]:=⟨_,rfl⟩;have TZ:uj n r B cR=⟨cR.cB,cR.c_,qk .i64 cR.gb ((2^V9.kh.toNat:Nat):Int),qk .i64 cR.eP ((2^y.mode.toNat:Nat):Int)⟩:=by
  simp only[uj,a1.kh,a1.mode,aNE,aNF]
 have GX:=db;rw[TZ] at GX;simp only[a1.row,bS.row] at GX;rw[<-GX];have x8:N[M.length]? =some (.box (l.row aL)):=by rw[db,hc];rfl
 have vO:N[M.length+1]? =some (.box (uj n r B cR).row):=by rw[db,eS];rfl
 have vP:N[M.length+2]? =some (.box r.row):=by rw[db,eS];rfl
 have J_:cA n q aL f h A Q O N:=by rw[db];exact H.app _
 have Ls:ea f h M N:=by rw[db];exact ea.app f h M _
 clear db GX TZ cq hc eS s0 s1;generalize iX:M.length=e4 at*;generalize pZ:nQ n l i b stay B (r.calls.drop (b+1)) (b+1) (uj n r B cR)=full at*;have aOg:(r.calls.drop (b+1)).length=r.calls.length -(b+1):=List.length_drop;have aEN:∀(j:Nat)(c:cd),(r.calls.drop (b+1))[j]? =some c->r.calls[b+1+j]? =some c:=fun j c ap=>by rw[kL] at ap;exact ap
 generalize eN:r.calls.drop (b+1)=cs at*;refine ek cs (fun j vs N=>∃d_ eg rd,vs=[.ptr f 0,.int .i64 i,.int .i64 b,.bool stay,.ptr e4 0,.ptr (e4+1) 0,.ptr (e4+2) 0,.int .i64 ((b+1+j:Nat):Int)]/\cA n q aL f h d_ eg O N/\ea f h M N/\N[e4]? =some (.box (l.row aL))/\N[e4+1]? =some (.box (a1.row rd))/\N[e4+2]? =some (.box r.row)/\(∀o∈d_,ha o)/\
  d_.length+(nQ n l i b stay B (cs.drop j) (b+1+j) rd).length<=1000000000000/\eg.length+(nQ n l i b stay B (cs.drop j) (b+1+j) rd).length<=1000000000000/\∀c2 cI,gf d_ eg (nQ n l i b stay B (cs.drop j) (b+1+j) rd) c2 cI->gf A Q full c2 cI)
  ⟨A,Q,uj n r B cR,rfl,J_,Ls,x8,vO,vP,et,by rw[l9,iJ,pZ];exact hg,by rw[l9,iJ,pZ];exact io,fun c2 cI bk=>by rw[l9,iJ,pZ] at bk;exact bk⟩ ?_ ?_;rotate_left
 . rintro vs dY ⟨d_,eg,rd,rfl,rX,nn,aE,bH,b8,jv,oO,oR,pR⟩
   have aER:decide (((b+1+cs.length:Nat):Int)<(r.calls.length:Int))=false:=decide_eq_false (by omega);simp only[bS.row] at b8;simp-implicitDefEqProofs (disch:=omega) only[go_sem,↓br 11,b8,aER];rw[List.drop_length] at pR;exact⟨nn,d_,eg,rX,pR d_ eg ⟨rfl,rfl⟩⟩
 rintro j c vs dY ar ap mn ⟨d_,eg,rd,rfl,rX,nn,aE,bH,b8,jv,oO,oR,pR⟩;have Tf:=aEN j c ar;obtain⟨mB,MH,gm,a6,ba,e3,_⟩:=E5 ok al Tf;have aGW:=N2 mB.kh a6 ba;have G8:decide (((b+1+j:Nat):Int)<(r.calls.length:Int))=true:=decide_eq_true (by omega);have aG8:nQ n l i b stay B (cs.drop j) (b+1+j) rd=(if c.gP||v4 n i (b+1+j:Nat) then[m9 l i b stay B c (b+1+j) (rd.at n c)] else[])++nQ n l i b stay B (cs.drop (j+1)) (b+1+(j+1)) (rd.at n c):=by
  rw[uT ar];rfl
 rw[aG8] at oO oR pR;generalize CR:b+1+j=k at*;have iW:b+1+(j+1)=k+1:=by omega
 rw[iW] at oO oR pR;obtain⟨m,o,E,U,_⟩:=rX.box;have fa:e4+1<dY.length:=(bn.1 bH).1;have gT:e4+2<dY.length:=(bn.1 b8).1;have fj:=fun L=>b6 aE L;have bU:=fun L=>b6 bH L;have b4:=fun L=>b6 b8 L;have Ko:=fun L=>b6 U L;have fF:∀X L,(dY++L).set (e4+1) X=dY.set (e4+1) X++L:=fun X L=>nN fa L X;have i4:∀X L,(dY.set (e4+1) X++L)[e4+1]? =some X:=fun X L=>b6 (eC fa) L;have r2:∀X Y L,(dY.set (e4+1) X++L).set (e4+1) Y=dY.set (e4+1) Y++L:=fun X Y L=>by rw[nN (by rw[eO];exact fa),List.set_set]
 have rl:∀X L,(dY.set (e4+1) X++L)[e4]? =some (.box (l.row aL)):=fun X L=>by rw[NY (by omega) X L fa];exact fj L
 have V5:∀X L,(dY.set (e4+1) X++L)[e4+2]? =some (.box r.row):=fun X L=>by rw[NY (by omega) X L fa];exact b4 L
 have aK1:∀X L,(dY.set (e4+1) X++L)[f]? =some (iO n q m h o):=fun X L=>by rw[NY (by omega) X L fa];exact Ko L
 have yc:∀X L,(dY.set (e4+1) X++L)[dY.length]? =L[0]? :=fun X L=>by
  have:=e0 (dY.set (e4+1) X) L;rwa [eO] at this
 have rs:∀X L Y,(dY.set (e4+1) X++L).set dY.length Y=dY.set (e4+1) X++L.set 0 Y:=fun X L Y=>by
  have:=kg (dY.set (e4+1) X) L Y;rwa [eO] at this
 have q0:=fun L=>e0 dY L;have w0:=fun L=>kg dY L;simp only[bS.row] at b8 b4 V5;simp only[iO] at Ko aK1 U;have I4:=bH;simp only[a1.row] at bU I4;simp-implicitDefEqProofs (disch:=omega) only[go_sem,↓br 11,↓br 13,↓br 15,↓br 17,↓br 19,b8,G8,Tf,cd.row,bU,Ko,fF,i4,r2,yc,q0,w0,eX,MH,Stop.row,aGW];obtain⟨fH,q3⟩:∃fH,fH=dY.set (e4+1) (.box (rd.at n c).row)++[a2.box c.row]:=⟨_,rfl⟩;have mR:rd.at n c=⟨rd.cB,c.c_,qk .i64 rd.gb ((2^mB.kh.toNat:Nat):Int),rd.eP⟩:=by simp only[a1.at,a1.kh,e3]
 have GY:=q3;rw[mR] at GY;simp only[a1.row,cd.row] at GY;have h2:cA n q aL f h d_ eg O fH:=by rw[q3];exact(rX.uo bH (by omega) (by omega) _).app _
 have pP:ea f h M fH:=by rw[q3];exact(nn.uo (by omega) _).trans (ea.app f h _ _)
 have hM:fH[e4]? =some (.box (l.row aL)):=by rw[q3];exact rl _ _
 have dw:fH[e4+1]? =some (.box (rd.at n c).row):=by rw[q3];exact i4 _ _
 have dn:fH[e4+2]? =some (.box r.row):=by rw[q3];exact V5 _ _
 have i3:fH[dY.length]? =some (.box c.row):=by rw[q3,yc];rfl
 have fin:∀ii nf ni,cA n q aL f h nf ni O ii->ea f h fH ii->gf d_ eg (if c.gP||v4 n i (k:Nat) then[m9 l i b stay B c k (rd.at n c)] else[]) nf ni->
  ∃e5,e5<cs.length -j/\∃j',e5=cs.length -j'/\j'<=cs.length/\∃d_ eg rd,[V.ptr f 0,.int .i64 i,.int .i64 b,.bool stay,.ptr e4 0,.ptr (e4+1) 0,.ptr (e4+2) 0,.int .i64 ((k:Int)+1)]=[.ptr f 0,.int .i64 i,.int .i64 b,.bool stay,.ptr e4 0,.ptr (e4+1) 0,.ptr (e4+2) 0,.int .i64 ((b+1+j':Nat):Int)]/\
   cA n q aL f h d_ eg O ii/\ea f h M ii/\ii[e4]? =some (.box (l.row aL))/\ii[e4+1]? =some (.box (a1.row rd))/\ii[e4+2]? =some (.box r.row)/\(∀o∈d_,ha o)/\
   d_.length+(nQ n l i b stay B (cs.drop j') (b+1+j') rd).length<=1000000000000/\eg.length+(nQ n l i b stay B (cs.drop j') (b+1+j') rd).length<=1000000000000/\∀c2 cI,gf d_ eg (nQ n l i b stay B (cs.drop j') (b+1+j') rd) c2 cI->gf A Q full c2 cI:=by
  intro ii nf ni ak vb jf;have hlen:=jf.len;rw[dT] at oO oR;refine⟨cs.length -(j+1),by omega,j+1,rfl,ap,nf,ni,rd.at n c,by rw[iW];rfl,ak,pP.trans vb,vb _ _ hM (by omega) (by omega),vb _ _ dw (by omega) (by omega),vb _ _ dn (by omega) (by omega),?_,by rw[iW];omega,by rw[iW];omega,fun c2 cI gG=>?_⟩
  . refine jf.all jv ?_
    intro x ab;split at ab
    . rw[ht.1 ab];exact ag
    . cases ab
  . rw[iW] at gG
    exact pR c2 cI (jf.app gG)
 rw[dT] at oO oR;refine cp (fun g=>?_) (fun g=>?_)
 . simp-implicitDefEqProofs (disch:=omega) only[go_sem]
   rw[<-GY];have nu:(if c.gP||v4 n i (k:Nat) then[m9 l i b stay B c k (rd.at n c)] else[])=[m9 l i b stay B c k (rd.at n c)]:=by rw[g,Bool.true_or];rfl
   rw[nu] at oO oR fin;simp only[List.length_singleton] at oO oR;refine WW h2 aC bR jv l ag o9 bY stay (rd.at n c) (by omega) (by omega) hM dw dn i3 _ rfl rfl rfl rfl rfl rfl rfl rfl rfl _ fun ii nf ni ak vb jf=>?_;simp-implicitDefEqProofs (disch:=omega) only[go_sem];exact .inl (fin ii nf ni ak vb (gf.one jf))
 simp-implicitDefEqProofs (disch:=omega) only[go_sem];rw[<-GY];refine ew (aL8 h2 (jH ok.b9 (by omega)) (i:Int) (k:Int)) ?_;rintro v ii ⟨rfl,G,rfl⟩;generalize bh:v4 n (i:Int) (k:Int)=aLu at*;cases aLu with
 |false=>
  have aGm:(if c.gP||false then[m9 l i b stay B c k (rd.at n c)] else[])=[]:=by rw[g];rfl
  rw[aGm] at fin;simp-implicitDefEqProofs (disch:=omega) only[go_sem];exact .inl (fin _ d_ eg (h2.app G) (ea.app f h fH G) ⟨rfl,rfl⟩)
 |true=>
  simp-implicitDefEqProofs (disch:=omega) only[go_sem];have nu:(if c.gP||true then[m9 l i b stay B c k (rd.at n c)] else[])=[m9 l i b stay B c k (rd.at n c)]:=by rw[Bool.or_true];rfl
  rw[nu] at oO oR fin;simp only[List.length_singleton] at oO oR;refine WW (h2.app G) aC bR jv l ag o9 bY stay (rd.at n c) (by omega) (by omega) (b6 hM G) (b6 dw G) (b6 dn G) (b6 i3 G) _ rfl rfl rfl rfl rfl rfl rfl rfl rfl _ fun ii nf ni ak vb jf=>?_;simp-implicitDefEqProofs (disch:=omega) only[go_sem];exact .inl (fin ii nf ni ak ((ea.app f h fH G).trans vb) (gf.one jf))
end Go.aQ.C
namespace Go.aQ.C
open Go.aQ
def qC(n:Net)(q:Query)(aL:bd)(f h:Nat)(A Q:List aI)(O:List c7)(M:Mem)(L:List aI)(v:V)(ah:Mem):Prop:=
 v=.tuple []/\ea f h M ah/\∃c2 cI,cA n q aL f h c2 cI O ah/\gf A Q L c2 cI
def qh(l:aI)(i k:Int)(x:dA):Bool:=!x.stay&&(decide (l.place.kind=1)&&(decide (x.src=l.place.run)&&(decide (x.hY=l.place.cM)&&(decide (x.dst=i)&&decide (x.j7=k)))))
def I_(n:Net)(l:aI)(i k:Int):Bool:=n.b9.any (qh l i k)
theorem aIp{n:Net}{q:Query}{aL:bd}{f h:Nat}{A Q:List aI}{O:List c7}{M:Mem}(H:cA n q aL f h A Q O M)(ag:n.b9.length<=100000)(l:aI)(i k:Int):
 cj av Iv [.ptr f 0,.agg (l.row aL),.int .i64 i,.int .i64 k] M (fun v ah=>v=.bool (I_ n l i k)/\qJ M ah):=by
 obtain⟨m,o,E,U,af,ay⟩:=H.box;have cq:=fun L=>b6 U L;simp only[iO] at cq;have fN:∀(K:Mem)(B:a2),(K++[B])[K.length]? =some B:=fun K B=>by simp
 have jL:∀(K:Mem)(B X:a2),(K++[B]).set K.length X=K++[X]:=fun K B X=>by simp
 refine hx Sz (by simp[Cq]) ?_;simp only[hq];simp-implicitDefEqProofs (disch:=omega) only[go_sem,Cq,eX,cq,aI.len];refine ek n.b9 (fun j vs N=>(n.b9.take j).any (qh l i k)=false/\vs=[.int .i64 i,.int .i64 k,.ptr M.length 0,.slice (n.b9.map dA.row) n.lc,.int .i64 n.b9.length,.int .i64 j]/\qJ (M++[.box (l.row aL)]) N) ⟨rfl,rfl,qJ.refl _⟩ ?_ ?_;rotate_left
 . rintro vs N ⟨bk,rfl,G,rfl⟩
   rw[g0] at bk;simp-implicitDefEqProofs (disch:=omega) only[go_sem,↓br 5,↓br 25,dg];exact⟨bk.symm,_,eB ..⟩
 rintro j x vs N ab ap mn ⟨bk,rfl,ax⟩;have mV:(n.b9.take (j+1)).any (qh l i k)=qh l i k x:=by
  rw[hR,ab,List.any_append,bk];simp
 have xF:qh l i k x=true->I_ n l i k=true:=fun h=>List.any_eq_true.2 ⟨x,dO ab,h⟩;have h9:∀L,(N++L)[M.length]? =some (.box (l.row aL)):=fun L=>by
  obtain⟨G,rfl⟩:=ax;rw[eB,eB,jX (cF _),mH];rfl
 have pf:(l.row aL)[0]? =some (.int .i64 l.place.kind):=rfl;have Hn:(l.row aL)[2]? =some (.int .i64 l.place.run):=rfl;have aGI:(l.row aL)[3]? =some (.int .i64 l.place.cM):=rfl;simp-implicitDefEqProofs (disch:=omega) only[go_sem,↓br 5,↓br 8,↓br 13,mn,ab,dA.row,fN,jL];refine cp (fun aW=>?_) (fun aW=>?_)
 . simp-implicitDefEqProofs (disch:=omega) only[go_sem,↓br 17]
   exact c6 ap ⟨by rw[mV,qh,aW];rfl,rfl,ax.app _⟩
 simp-implicitDefEqProofs (disch:=omega) only[go_sem,h9,pf];refine a5 (fun a9=>?_) (fun a9=>?_);rotate_left
 . simp-implicitDefEqProofs (disch:=omega) only[go_sem,↓br 17]
   exact c6 ap ⟨by rw[mV,qh,aW,decide_eq_false a9];rfl,rfl,ax.app _⟩
 simp-implicitDefEqProofs (disch:=omega) only[go_sem,fN,h9,Hn];refine a5 (fun bN=>?_) (fun bN=>?_);rotate_left
 . simp-implicitDefEqProofs (disch:=omega) only[go_sem,↓br 17]
   exact c6 ap ⟨by rw[mV,qh,aW,decide_eq_true a9,decide_eq_false bN];rfl,rfl,ax.app _⟩
 simp-implicitDefEqProofs (disch:=omega) only[go_sem,fN,h9,aGI];refine a5 (fun c5=>?_) (fun c5=>?_);rotate_left
 . simp-implicitDefEqProofs (disch:=omega) only[go_sem,↓br 17]
   exact c6 ap ⟨by rw[mV,qh,aW,decide_eq_true a9,decide_eq_true bN,decide_eq_false c5];rfl,rfl,ax.app _⟩
 simp-implicitDefEqProofs (disch:=omega) only[go_sem,fN];refine a5 (fun er=>?_) (fun er=>?_);rotate_left
 . simp-implicitDefEqProofs (disch:=omega) only[go_sem,↓br 17]
   exact c6 ap ⟨by rw[mV,qh,aW,decide_eq_true a9,decide_eq_true bN,decide_eq_true c5,decide_eq_false er];rfl,rfl,ax.app _⟩
 simp-implicitDefEqProofs (disch:=omega) only[go_sem,fN];refine a5 (fun eT=>?_) (fun eT=>?_)
 . simp-implicitDefEqProofs (disch:=omega) only[go_sem]
   obtain⟨G,rfl⟩:=ax;exact⟨(xF (by rw[qh,aW,decide_eq_true a9,decide_eq_true bN,decide_eq_true c5,decide_eq_true er,decide_eq_true eT];rfl)).symm,_,by rw[eB,eB]⟩
 . simp-implicitDefEqProofs (disch:=omega) only[go_sem,↓br 17]
   exact c6 ap ⟨by rw[mV,qh,aW,decide_eq_true a9,decide_eq_true bN,decide_eq_true c5,decide_eq_true er,decide_eq_false eT];rfl,rfl,ax.app _⟩
def sQ(x:ca)(Fg:Int):ca:={x with cB:=x.cB+(Fg -x.c_),c_:=Fg}
def oY(l:aI)(Fg:Int):aI:=match l.aZ with
 |[x]=>if x.cR=false then{l with b1:=l.b1+1,aZ:=[sQ x Fg],tag:=.full} else{l with b1:=l.b1+1}
 |_=>{l with b1:=l.b1+1}
def oQ(n:Net)(q:Query)(l:aI)(i k:Nat):List aI:=if l.b1=q.b1 then[] else match(kR n i)[k]? with
 |some c=>m_ n (oY l c.cB) i k false ⟨c.cB,0,0,0⟩
 |none=>[]
def yL(x:ca):Prop:=(0<=x.c_/\x.c_<=3155932800)/\(-3155932800<=x.c_ -x.cB/\x.c_ -x.cB<=3155932800)
theorem P2{n:Net}{q:Query}{aL:bd}{f h:Nat}{A Q:List aI}{O:List c7}{M:Mem}(H:cA n q aL f h A Q O M)(ok:g2 n)(aC:aL.wf)(bR:aL.hS)(et:∀o∈A,ha o)(l:aI)(ag:ha l)(o9:l.aZ.length+1<=1000)(TW:l.b1<=1000)(pf:0<=l.b1)(h9:∀x∈l.aZ,yL x)
 {i k:Nat}{r:bS}{c:cd}(al:n.runs[i]? =some r)(ar:r.calls[k]? =some c)(hg:A.length+(oQ n q l i k).length<=1000000000000)(io:Q.length+(oQ n q l i k).length<=1000000000000):
 cj av It [.ptr f 0,.agg (l.row aL),.int .i64 i,.int .i64 k] M (qC n q aL f h A Q O M (oQ n q l i k)):=by
 obtain⟨m,o,E,U,af,ay⟩:=H.box;have cq:=fun L=>b6 U L;have hc:=fun L=>e0 M L;have eS:=fun L=>iP M L;have s0:=fun L=>kg M L;have s1:=fun L=>k7 M L;have aEG:=(ok.ok.runs.2 i r al).2.2.2.2.2.1.2.2 k c ar;have CK:0<=c.cB/\c.cB<=3155932800:=by have:=aEG.2.1;omega
 simp only[iO] at cq;have ts:(l.row aL)[9]? =some (.int .i64 l.b1):=rfl;have sk:kR n i=r.calls:=by simp only[kR,al]
 have hp:IntKind.i64.wrap (l.b1+1)=l.b1+1:=qv _ (by omega) (by omega);simp only[oQ,sk,ar] at hg io⊢;refine hx Sw (by simp[Cm]) ?_;simp only[hq];simp-implicitDefEqProofs (disch:=omega) only[go_sem,Cm,eX,aI.len,cq,hc,ts];refine a5 (fun g=>?_) (fun g=>?_)
 . simp-implicitDefEqProofs (disch:=omega) only[go_sem]
   rw[if_pos g];exact⟨rfl,ea.app f h M _,A,Q,H.app _,rfl,rfl⟩
 rw[if_neg g] at hg io⊢;obtain⟨cU,fa⟩:∃cU:aI,cU={l with b1:=l.b1+1}:=⟨_,rfl⟩;have t1:(l.row aL).set 9 (.int .i64 (l.b1+1))=cU.row aL:=by rw[fa];rfl
 have pQ:(cU.row aL)[12]? =some (.slice (l.aZ.map ca.row) l.tag):=by rw[fa];rfl
 have iF:∀l:aI,(l.row aL).take 13=l.row aL:=fun _=>rfl;simp-implicitDefEqProofs (disch:=omega) only[go_sem,↓br 5,↓br 7,eX,aI.len,cq,hc,s0,ts,al,bS.row,ar,cd.row,hp,t1];have H1:∀L,cA n q aL f h A Q O (M++L):=fun L=>H.app L;have nn:∀L,ea f h M (M++L):=fun L=>ea.app f h M L;simp-implicitDefEqProofs (disch:=omega) only[go_sem,↓br 20,hc,pQ];refine a5 (fun aW=>?_) (fun aW=>?_);rotate_left
 . have gS:oY l c.cB=cU:=by
    rw[fa];unfold oY;match zA:l.aZ with
    |[]=>rfl
    |[x]=>rw[zA] at aW;exact absurd rfl aW
    |_::_::_=>rfl
   rw[gS] at hg io⊢;simp-implicitDefEqProofs (disch:=omega) only[go_sem,↓br 22,hc,aI.len,iF];have CD:ha cU:=by rw[fa];exact ag
   have Mq:cU.aZ.length+1<=1000:=by rw[fa];exact o9
   refine ew (JQ (H1 _) ok aC bR et cU CD Mq al ar false ⟨c.cB,0,0,0⟩ hg io) ?_;rintro v N ⟨rfl,cl,c2,cI,bh,jf⟩;simp-implicitDefEqProofs (disch:=omega) only[go_sem];exact⟨rfl,(nn _).trans cl,c2,cI,bh,jf⟩
 obtain⟨x,ab⟩:∃x,l.aZ=[x]:=by
  match zA:l.aZ with
  |[]=>rw[zA] at aW;cases aW
  |[x]=>exact⟨x,rfl⟩
  |_::_::_=>rw[zA] at aW;simp only[dz] at aW;omega
 have pV:=h9 x (by rw[ab];exact ht.2 rfl);rw[ab] at pQ;simp only[hQ,lb] at pQ;simp-implicitDefEqProofs (disch:=omega) only[go_sem,hc,pQ,ca.row];refine cp (fun a9=>?_) (fun a9=>?_)
 . have gS:oY l c.cB=cU:=by
    rw[fa];unfold oY;rw[ab];show(if x.cR=false then _ else _)=_;rw[if_neg (by rw[a9];exact Bool.noConfusion)]
   rw[gS] at hg io⊢;simp-implicitDefEqProofs (disch:=omega) only[go_sem,↓br 22,hc,aI.len,iF];have CD:ha cU:=by rw[fa];exact ag
   have Mq:cU.aZ.length+1<=1000:=by rw[fa];exact o9
   refine ew (JQ (H1 _) ok aC bR et cU CD Mq al ar false ⟨c.cB,0,0,0⟩ hg io) ?_;rintro v N ⟨rfl,cl,c2,cI,bh,jf⟩;simp-implicitDefEqProofs (disch:=omega) only[go_sem];exact⟨rfl,(nn _).trans cl,c2,cI,bh,jf⟩
 obtain⟨eW,gT⟩:∃eW:aI,eW={l with b1:=l.b1+1,aZ:=[sQ x c.cB],tag:=.full}:=⟨_,rfl⟩;have gS:oY l c.cB=eW:=by
  rw[gT];unfold oY;rw[ab];show(if x.cR=false then _ else _)=_;rw[if_pos a9]
 rw[gS] at hg io⊢;have t2:(cU.row aL).set 12 (.slice [(sQ x c.cB).row] .full)=eW.row aL:=by rw[fa,gT];rfl
 have lF:IntKind.i64.wrap (c.cB -x.c_)=c.cB -x.c_:=qv _ (by obtain⟨⟨_,_⟩,_,_⟩:=pV;omega) (by obtain⟨⟨_,_⟩,_,_⟩:=pV;omega);have we:IntKind.i64.wrap (x.cB+(c.cB -x.c_))=x.cB+(c.cB -x.c_):=qv _ (by obtain⟨⟨_,_⟩,_,_⟩:=pV;omega) (by obtain⟨⟨_,_⟩,_,_⟩:=pV;omega);simp only[sQ,ca.row] at t2;simp-implicitDefEqProofs (disch:=omega) only[go_sem,↓br 9,↓br 11,↓br 13,↓br 15,↓br 22,hc,eS,s0,s1,pQ,lF,we,t2,iF,aI.len,eB,ca.row];have LG:ha eW:=by rw[gT];exact ag
 have aF8:eW.aZ.length+1<=1000:=by rw[gT];show 1+1<=1000;omega
 refine ew (JQ (H1 _) ok aC bR et eW LG aF8 al ar false ⟨c.cB,0,0,0⟩ hg io) ?_;rintro v N ⟨rfl,cl,c2,cI,bh,jf⟩;simp-implicitDefEqProofs (disch:=omega) only[go_sem];exact⟨rfl,(nn _).trans cl,c2,cI,bh,jf⟩
end Go.aQ.C
namespace Go.aQ.C
open Go.aQ
structure qF(l:aI):Prop where
 lw:ha l
 aZ:l.aZ.length+1<=1000
 fF:0<=l.b1
 NL:l.b1<=1000
 tX:∀x∈l.aZ,yL x
 time:0<=l.time/\l.time<=3155932800
 walk:0<=l.walk/\l.walk<=86400
def ec(n:Net)(q:Query)(aL:bd)(f h:Nat)(A Q:List aI)(O:List c7)(gO:Mem)(full dD:List aI)(N:Mem):Prop:=
 ∃d_ eg,cA n q aL f h d_ eg O N/\ea f h gO N/\(∀o∈d_,ha o)/\d_.length+dD.length<=1000000000000/\eg.length+dD.length<=1000000000000/\∀c2 cI,gf d_ eg dD c2 cI->gf A Q full c2 cI
section
variable{n:Net}{q:Query}{aL:bd}{f h:Nat}{A Q:List aI}{O:List c7}{gO M N dP:Mem}{full dD L:List aI}
theorem ec.app(H:ec n q aL f h A Q O gO full dD N)(G:Mem):ec n q aL f h A Q O gO full dD (N++G):=by
 obtain⟨d_,eg,ak,cl,U⟩:=H;exact⟨d_,eg,ak.app G,cl.trans (ea.app f h N G),U⟩
theorem ec.start(H:cA n q aL f h A Q O N)(et:∀o∈A,ha o)(oO:A.length+full.length<=1000000000000)(oR:Q.length+full.length<=1000000000000):ec n q aL f h A Q O N full full N:=
 ⟨A,Q,H,ea.refl f h N,et,oO,oR,fun _ _ h=>h⟩
theorem ec.done(H:ec n q aL f h A Q O gO full [] N)(cl:ea f h M gO):qC n q aL f h A Q O M full (.tuple []) N:=by
 obtain⟨d_,eg,ak,nn,_,_,_,U⟩:=H;exact⟨rfl,cl.trans nn,d_,eg,ak,U d_ eg ⟨rfl,rfl⟩⟩
theorem ec.call{i:Nat}{args:List V}{K:V->Mem->Prop}(H:ec n q aL f h A Q O gO full (L++dD) N)(dh:∀x∈L,ha x)
 (ar:∀d_ eg,cA n q aL f h d_ eg O N->(∀o∈d_,ha o)->d_.length+L.length<=1000000000000->eg.length+L.length<=1000000000000->cj av i args N (qC n q aL f h d_ eg O N L))
 (ao:∀dP,ea f h N dP->ec n q aL f h A Q O gO full dD dP->K (.tuple []) dP):@qz av i args N ⟨K⟩:=by
 obtain⟨d_,eg,ak,cl,et,oO,oR,U⟩:=H;rw[dT] at oO oR;refine ew (ar d_ eg ak et (by omega) (by omega)) ?_;rintro v dP ⟨rfl,Cy,yE,yP,iz,jf⟩;have hlen:=jf.len;exact ao dP Cy ⟨yE,yP,iz,cl.trans Cy,jf.all et dh,by omega,by omega,fun c2 cI gG=>U c2 cI (jf.app gG)⟩
theorem ec.nil(H:ec n q aL f h A Q O gO full ([]++dD) N):ec n q aL f h A Q O gO full dD N:=H
theorem ec.st(H:ec n q aL f h A Q O gO full dD N):∃d_ eg,cA n q aL f h d_ eg O N/\ea f h gO N:=by
 obtain⟨d_,eg,ak,cl,_⟩:=H;exact⟨d_,eg,ak,cl⟩
end
theorem WT{n:Net}{l:aI}{i b:Nat}{stay:Bool}{B:cd}:∀{cs:List cd}{k:Nat}{cR:a1},∀x∈nQ n l i b stay B cs k cR,x.base=l.base
 |[],_,_,x,ab=>by cases ab
 |c::cs,k,cR,x,ab=>by
  rcases g_.1 ab with ab|ab
  . split at ab
    . rw[ht.1 ab];rfl
    . cases ab
  . exact WT x ab
theorem Oi{n:Net}{l:aI}{i b:Nat}{stay:Bool}{cR:a1}:∀x∈m_ n l i b stay cR,x.base=l.base:=by
 intro x ab;unfold m_ at ab;split at ab
 . split at ab
   . exact WT x ab
   . cases ab
 . cases ab
theorem aBT(l:aI)(d:Int):(oY l d).base=l.base:=by
 unfold oY;split
 . split<;>rfl
 . rfl
theorem KG{n:Net}{q:Query}{l:aI}{i k:Nat}:∀x∈oQ n q l i k,x.base=l.base:=by
 intro x ab;unfold oQ at ab;split at ab
 . cases ab
 . split at ab
   . rw[Oi x ab,aBT]
   . cases ab
theorem ha.base{a b:aI}(h:ha a)(e:b.base=a.base):ha b:=by unfold ha;rw[e];exact h
def wC(n:Net)(l:aI)(t:Int)(r:bS)(i k:Nat)(c:cd):Bool:=
 !r.gone&&(c.jb&&(decide (c.stop=l.place.stop)&&(!decide (((k:Int)+1)=(r.calls.length:Int))&&(decide (t<=c.cB)||(decide (l.time<=c.cB)&&I_ n l i k)))))
def yV(n:Net)(q:Query)(l:aI)(t:Int)(r:bS)(i k:Nat)(c:cd):List aI:=if wC n l t r i k c then oQ n q l i k else[]
def qQ(n:Net)(q:Query)(l:aI)(t:Int)(r:bS)(i:Nat):List cd->Nat->List aI
 |[],_=>[]
 |c::cs,k=>yV n q l t r i k c++qQ n q l t r i cs (k+1)
def pJ(n:Net)(q:Query)(l:aI)(t:Int):List bS->Nat->List aI
 |[],_=>[]
 |r::rs,i=>qQ n q l t r i r.calls 0++pJ n q l t rs (i+1)
def lm(n:Net)(q:Query)(l:aI)(t:Int):List aI:=pJ n q l t n.runs 0
theorem abz{n:Net}{q:Query}{l:aI}{t:Int}{r:bS}{i k:Nat}{c:cd}:∀x∈yV n q l t r i k c,x.base=l.base:=by
 intro x ab;unfold yV at ab;split at ab
 . exact KG x ab
 . cases ab
theorem KF{n:Net}{q:Query}{aL:bd}{f h:Nat}{A Q:List aI}{O:List c7}{M:Mem}(H:cA n q aL f h A Q O M)(ok:g2 n)(aC:aL.wf)(bR:aL.hS)(et:∀o∈A,ha o)(l:aI)(ag:qF l)(t:Int)
 (hg:A.length+(lm n q l t).length<=1000000000000)(io:Q.length+(lm n q l t).length<=1000000000000):
 cj av zY [.ptr f 0,.agg (l.row aL),.int .i64 t] M (qC n q aL f h A Q O M (lm n q l t)):=by
 obtain⟨m,o,E,U,af,ay⟩:=H.box;obtain⟨_,CQ,o6⟩:=H.uY;have cq:=fun L=>b6 U L;have hc:=fun L=>e0 M L;simp only[iO] at cq;have fN:∀(K:Mem)(B:a2),(K++[B])[K.length]? =some B:=fun K B=>by simp
 have jL:∀(K:Mem)(B X:a2),(K++[B]).set K.length X=K++[X]:=fun K B X=>by simp
 have iF:∀l:aI,(l.row aL).take 13=l.row aL:=fun _=>rfl;have vp:(l.row aL)[1]? =some (.int .i64 l.place.stop):=rfl;have TW:(l.row aL)[8]? =some (.int .i64 l.time):=rfl;refine hx Sv (by simp[Cn]) ?_;simp only[hq];simp-implicitDefEqProofs (disch:=omega) only[go_sem,Cn,eX,cq,aI.len];refine ek n.runs (fun j vs N=>vs=[.ptr f 0,.int .i64 t,.ptr M.length 0,.slice (n.runs.map bS.row) n.rQ,.int .i64 n.runs.length,.int .i64 j]/\ec n q aL f h A Q O (M++[.box (l.row aL)]) (lm n q l t) (pJ n q l t (n.runs.drop j) j) N)
  ⟨rfl,ec.start (H.app _) et hg io⟩ ?_ ?_;rotate_left
 . rintro vs N ⟨rfl,ak⟩
   rw[List.drop_length] at ak;simp-implicitDefEqProofs (disch:=omega) only[go_sem,↓br 5,dg];exact ak.done (ea.app f h M _)
 rintro i r vs N al hi bf ⟨rfl,ak⟩;rw[uT al] at ak;simp-implicitDefEqProofs (disch:=omega) only[go_sem,↓br 5,↓br 8,↓br 10,bf,al,fN,jL,bS.row];obtain⟨dY,q2⟩:∃dY,dY=N++[.box r.row]:=⟨_,rfl⟩;have sw:ec n q aL f h A Q O (M++[.box (l.row aL)]) (lm n q l t) (qQ n q l t r i r.calls 0++pJ n q l t (n.runs.drop (i+1)) (i+1)) dY:=by rw[q2];exact ak.app _
 have mW:dY[N.length]? =some (.box r.row):=by rw[q2];exact fN _ _
 obtain⟨nx,xw⟩:N.length≠f/\N.length≠h:=by
  obtain⟨d_,eg,bh,_⟩:=ak;obtain⟨_,bv,b7⟩:=bh.uY;exact⟨by omega,by omega⟩
 simp only[bS.row] at q2;rw[<-q2];clear q2;generalize N.length=p at*;have Hh:=(ok.ok.runs.2 i r al).2.2.2.2.2.1.2.1;have n8:=ok.runs;refine ek r.calls (fun k vs fH=>vs=[.ptr f 0,.int .i64 t,.ptr M.length 0,.int .i64 i,.ptr p 0,.slice (n.runs.map bS.row) n.rQ,.int .i64 n.runs.length,.int .i64 i,.slice (r.calls.map cd.row) r.tag,.int .i64 r.calls.length,.int .i64 k]/\fH[p]? =some (.box r.row)/\
  ec n q aL f h A Q O (M++[.box (l.row aL)]) (lm n q l t) (qQ n q l t r i (r.calls.drop k) k++pJ n q l t (n.runs.drop (i+1)) (i+1)) fH) ⟨rfl,mW,sw⟩ ?_ ?_;rotate_left
 . rintro vs fH ⟨rfl,nw,iz⟩
   rw[List.drop_length] at iz;simp-implicitDefEqProofs (disch:=omega) only[go_sem,↓br 12,↓br 36,dg];exact c6 hi ⟨rfl,iz⟩
 rintro k c vs fH ar ao fw ⟨rfl,nw,iz⟩;rw[uT ar] at iz;obtain⟨nf,ni,lZ,kW⟩:=iz.st;have h9:fH[M.length]? =some (.box (l.row aL)):=kW _ _ (hc _) (by omega) (by omega);have TH:=fun L=>b6 h9 L;have Mx:=fun L=>b6 nw L;have eN:∀(b:Bool),wC n l t r i k c=b->(if b then oQ n q l i k else[])++(qQ n q l t r i (r.calls.drop (k+1)) (k+1)++pJ n q l t (n.runs.drop (i+1)) (i+1))=qQ n q l t r i (c::r.calls.drop (k+1)) k++pJ n q l t (n.runs.drop (i+1)) (i+1):=by
  intro b aj;rw[<-eB];subst aj;rfl
 simp only[bS.row] at nw Mx;simp-implicitDefEqProofs (disch:=omega) only[go_sem,↓br 12,↓br 15,fw,ar,fN,jL,cd.row];obtain⟨ii,xa⟩:∃ii,ii=fH++[.box c.row]:=⟨_,rfl⟩;have dw:ii[p]? =some (.box r.row):=by rw[xa];simp only[bS.row];exact Mx _
 have dn:ii[M.length]? =some (.box (l.row aL)):=by rw[xa];exact TH _
 have i3:ii[fH.length]? =some (.box c.row):=by rw[xa];exact fN _ _
 have ly:=iz.app [.box c.row];rw[<-xa] at ly;simp only[cd.row] at xa i3;rw[<-xa];clear xa TH Mx h9 nw kW lZ iz;simp only[bS.row] at dw;have skip:wC n l t r i k c=false->ec n q aL f h A Q O (M++[.box (l.row aL)]) (lm n q l t) (qQ n q l t r i (r.calls.drop (k+1)) (k+1)++pJ n q l t (n.runs.drop (i+1)) (i+1)) ii:=fun aj=>by
  rw[<-eN _ aj] at ly;exact ly
 have ux:wC n l t r i k c=true->ec n q aL f h A Q O (M++[.box (l.row aL)]) (lm n q l t) (oQ n q l i k++(qQ n q l t r i (r.calls.drop (k+1)) (k+1)++pJ n q l t (n.runs.drop (i+1)) (i+1))) ii:=fun aj=>by
  have:=eN _ aj;rw[if_pos rfl] at this;rw[this];exact ly
 simp only[wC] at skip ux;simp-implicitDefEqProofs (disch:=omega) only[go_sem,↓br 17,dw];refine cp (fun aW=>?_) (fun aW=>?_)
 . simp-implicitDefEqProofs (disch:=omega) only[go_sem,↓br 26]
   exact c6 ao ⟨rfl,dw,skip (by rw[aW];rfl)⟩
 simp-implicitDefEqProofs (disch:=omega) only[go_sem,i3];refine cp (fun a9=>?_) (fun a9=>?_);rotate_left
 . simp-implicitDefEqProofs (disch:=omega) only[go_sem,↓br 26]
   exact c6 ao ⟨rfl,dw,skip (by rw[aW,a9];rfl)⟩
 simp-implicitDefEqProofs (disch:=omega) only[go_sem,i3,dn,vp];refine a5 (fun bN=>?_) (fun bN=>?_);rotate_left
 . simp-implicitDefEqProofs (disch:=omega) only[go_sem,↓br 26]
   exact c6 ao ⟨rfl,dw,skip (by rw[aW,a9,decide_eq_false bN];rfl)⟩
 simp-implicitDefEqProofs (disch:=omega) only[go_sem,dw];refine a5 (fun c5=>?_) (fun c5=>?_)
 . simp-implicitDefEqProofs (disch:=omega) only[go_sem,↓br 26]
   exact c6 ao ⟨rfl,dw,skip (by rw[aW,a9,decide_eq_true bN,decide_eq_true c5];rfl)⟩
 simp-implicitDefEqProofs (disch:=omega) only[go_sem,↓br 21,i3];refine a5 (fun er=>?_) (fun er=>?_)
 . simp-implicitDefEqProofs (disch:=omega) only[go_sem,↓br 19,dn,aI.len,iF]
   refine ec.call (ux (by rw[aW,a9,decide_eq_true bN,decide_eq_false c5,decide_eq_true er];rfl)) (fun x ab=>ag.lw.base (KG x ab)) (fun d_ eg bh jv c4 dF=>P2 bh ok aC bR jv l ag.lw ag.aZ ag.NL ag.fF ag.tX al ar c4 dF) fun qH cl ku=>?_;simp-implicitDefEqProofs (disch:=omega) only[go_sem,↓br 26];exact c6 ao ⟨rfl,cl _ _ dw nx xw,ku⟩
 simp-implicitDefEqProofs (disch:=omega) only[go_sem,i3,dn,TW];refine a5 (fun eT=>?_) (fun eT=>?_);rotate_left
 . simp-implicitDefEqProofs (disch:=omega) only[go_sem,↓br 26]
   exact c6 ao ⟨rfl,dw,skip (by rw[aW,a9,decide_eq_true bN,decide_eq_false c5,decide_eq_false er,decide_eq_false eT];rfl)⟩
 simp-implicitDefEqProofs (disch:=omega) only[go_sem,dn,aI.len,iF];obtain⟨aNP,aNT,aG2,_⟩:=ly.st;refine ew (aIp aG2 (jH ok.b9 (by omega)) l (i:Int) (k:Int)) ?_;rintro v qH ⟨rfl,G,rfl⟩;generalize TI:I_ n l (i:Int) (k:Int)=DT at*;cases DT with
 |false=>
  simp-implicitDefEqProofs (disch:=omega) only[go_sem,↓br 26];exact c6 ao ⟨rfl,b6 dw G,(skip (by rw[aW,a9,decide_eq_true bN,decide_eq_false c5,decide_eq_false er,decide_eq_true eT];rfl)).app G⟩
 |true=>
  have aKn:=b6 dn G;simp-implicitDefEqProofs (disch:=omega) only[go_sem,↓br 19,aKn,aI.len,iF];refine ec.call ((ux (by rw[aW,a9,decide_eq_true bN,decide_eq_false c5,decide_eq_false er,decide_eq_true eT];rfl)).app G) (fun x ab=>ag.lw.base (KG x ab)) (fun d_ eg bh jv c4 dF=>P2 bh ok aC bR jv l ag.lw ag.aZ ag.NL ag.fF ag.tX al ar c4 dF) fun qH cl ku=>?_;simp-implicitDefEqProofs (disch:=omega) only[go_sem,↓br 26];exact c6 ao ⟨rfl,cl _ _ (b6 dw G) nx xw,ku⟩
end Go.aQ.C
namespace Go.aQ.C
open Go.aQ
def AD(l:aI)(p:Path):aI:=
 {l with place:=⟨2,p.dst,0,0,⟨0,0,0,0⟩⟩,time:=l.time+p.dI,walk:=l.walk+p.dI,aZ:=l.aZ++[⟨false,0,0,0,l.place.stop,p.dst,l.time,l.time+p.dI,false⟩],tag:=.cv}
def yz(q:Query)(l:aI)(p:Path):Bool:=decide (p.src=l.place.stop)&&(!decide (q.walk<l.walk+p.dI)&&!decide (3155932800<l.time+p.dI))
def yy(q:Query)(l:aI)(p:Path):List aI:=if yz q l p then[AD l p] else[]
def rR(q:Query)(l:aI):List Path->List aI
 |[]=>[]
 |p::cP=>yy q l p++rR q l cP
def uv(n:Net)(q:Query)(l:aI):List aI:=rR q l n.paths
theorem Xe{n:Net}{q:Query}{aL:bd}{f h:Nat}{A Q:List aI}{O:List c7}{M:Mem}(H:cA n q aL f h A Q O M)(ok:g2 n)(aC:aL.wf)(bR:aL.hS)(et:∀o∈A,ha o)(l:aI)(ag:qF l)
 (hg:A.length+(uv n q l).length<=1000000000000)(io:Q.length+(uv n q l).length<=1000000000000):
 cj av DF [.ptr f 0,.agg (l.row aL)] M (qC n q aL f h A Q O M (uv n q l)):=by
 obtain⟨m,o,E,U,af,ay⟩:=H.box;obtain⟨_,CQ,o6⟩:=H.uY;have cq:=fun L=>b6 U L;have hc:=fun L=>e0 M L;simp only[iO] at cq;have fN:∀(K:Mem)(B:a2),(K++[B])[K.length]? =some B:=fun K B=>by simp
 have jL:∀(K:Mem)(B X:a2),(K++[B]).set K.length X=K++[X]:=fun K B X=>by simp
 have iF:∀l:aI,(l.row aL).take 13=l.row aL:=fun _=>rfl;have aW:(l.row aL)[1]? =some (.int .i64 l.place.stop):=rfl;have lu:(l.row aL)[8]? =some (.int .i64 l.time):=rfl;have GP:(l.row aL)[10]? =some (.int .i64 l.walk):=rfl;have pQ:(l.row aL)[12]? =some (.slice (l.aZ.map ca.row) l.tag):=rfl;have lV:=ok.paths;refine hx SF (by simp[Cw]) ?_;simp only[hq];simp-implicitDefEqProofs (disch:=omega) only[go_sem,Cw,eX,cq,aI.len];refine ek n.paths (fun j vs N=>vs=[.ptr f 0,.ptr M.length 0,.slice (n.paths.map Path.row) n.ql,.int .i64 n.paths.length,.int .i64 j]/\ec n q aL f h A Q O (M++[.box (l.row aL)]) (uv n q l) (rR q l (n.paths.drop j)) N)
  ⟨rfl,ec.start (H.app _) et hg io⟩ ?_ ?_;rotate_left
 . rintro vs N ⟨rfl,ak⟩
   rw[List.drop_length] at ak;simp-implicitDefEqProofs (disch:=omega) only[go_sem,↓br 5,dg];exact ak.done (ea.app f h M _)
 rintro i p vs N ax hi bf ⟨rfl,ak⟩;rw[uT ax] at ak;obtain⟨Hp,sw⟩:0<=p.dI/\p.dI<=86400:=by
  have:=(ok.ok.sound i p ax).1.2.2;omega
 obtain⟨⟨_,_⟩,⟨_,_⟩⟩:=And.intro ag.time ag.walk;have hp:IntKind.i64.wrap (l.walk+p.dI)=l.walk+p.dI:=qv _ (by omega) (by omega);have lF:IntKind.i64.wrap (l.time+p.dI)=l.time+p.dI:=qv _ (by omega) (by omega);obtain⟨nf,ni,lZ,kW⟩:=ak.st;obtain⟨nH,uc,EB,bH,_⟩:=lZ.box;have h9:N[M.length]? =some (.box (l.row aL)):=kW _ _ (hc _) (by omega) (by omega);have eN:∀(b:Bool),yz q l p=b->(if b then[AD l p] else[])++rR q l (n.paths.drop (i+1))=rR q l (p::n.paths.drop (i+1)):=by
  intro b aj;subst aj;rfl
 have skip:yz q l p=false->ec n q aL f h A Q O (M++[.box (l.row aL)]) (uv n q l) (rR q l (n.paths.drop (i+1))) N:=fun aj=>by
  rw[<-eN _ aj] at ak;exact ak
 have ux:yz q l p=true->ec n q aL f h A Q O (M++[.box (l.row aL)]) (uv n q l) ([AD l p]++rR q l (n.paths.drop (i+1))) N:=fun aj=>by
  have:=eN _ aj;rw[if_pos rfl] at this;rw[this];exact ak
 simp only[yz] at skip ux;have hM:=fun L=>b6 h9 L;have Ea:=fun L=>b6 bH L;simp only[iO] at Ea;simp-implicitDefEqProofs (disch:=omega) only[go_sem,↓br 5,↓br 8,↓br 10,bf,ax,fN,jL,Path.row,hM,aW];refine a5 (fun a6=>?_) (fun a6=>?_);rotate_left
 . simp-implicitDefEqProofs (disch:=omega) only[go_sem,↓br 32]
   exact c6 hi ⟨rfl,(skip (by rw[decide_eq_false a6];rfl)).app _⟩
 simp-implicitDefEqProofs (disch:=omega) only[go_sem,fN,hM,GP,Ea,eX,hp];refine a5 (fun ba=>?_) (fun ba=>?_)
 . simp-implicitDefEqProofs (disch:=omega) only[go_sem,↓br 32]
   exact c6 hi ⟨rfl,(skip (by rw[decide_eq_true a6,decide_eq_true ba];rfl)).app _⟩
 simp-implicitDefEqProofs (disch:=omega) only[go_sem,fN,hM,lu,lF];refine a5 (fun e3=>?_) (fun e3=>?_)
 . simp-implicitDefEqProofs (disch:=omega) only[go_sem,↓br 32]
   exact c6 hi ⟨rfl,(skip (by rw[decide_eq_true a6,decide_eq_false ba,decide_eq_true e3];rfl)).app _⟩
 have iz:=(ux (by rw[decide_eq_true a6,decide_eq_false ba,decide_eq_false e3];rfl));obtain⟨cU,fa⟩:∃cU:aI,cU={l with place:=⟨2,p.dst,0,0,⟨0,0,0,0⟩⟩}:=⟨_,rfl⟩;obtain⟨eW,gT⟩:∃eW:aI,eW={cU with time:=l.time+p.dI}:=⟨_,rfl⟩;obtain⟨mv,tI⟩:∃mv:aI,mv={eW with walk:=l.walk+p.dI}:=⟨_,rfl⟩;have t1:((((((((l.row aL).set 0 (.int .i64 2)).set 1 (.int .i64 p.dst)).set 2 (.int .i64 0)).set 3 (.int .i64 0)).set 4 (.int .i64 0)).set 5 (.int .i64 0)).set 6 (.int .i64 0)).set 7 (.int .i64 0)=cU.row aL:=by rw[fa];rfl
 have t2:(cU.row aL).set 8 (.int .i64 (l.time+p.dI))=eW.row aL:=by rw[gT];rfl
 have t3:(eW.row aL).set 10 (.int .i64 (l.walk+p.dI))=mv.row aL:=by rw[tI];rfl
 have t4:(mv.row aL).set 12 (.slice ((l.aZ++[(⟨false,0,0,0,l.place.stop,p.dst,l.time,l.time+p.dI,false⟩:ca)]).map ca.row) .cv)=(AD l p).row aL:=by rw[tI,gT,fa];rfl
 have aDQ:(mv.row aL)[8]? =some (.int .i64 (l.time+p.dI)):=by rw[tI,gT];rfl
 have p9:=OB l.aZ l.tag ⟨false,0,0,0,l.place.stop,p.dst,l.time,l.time+p.dI,false⟩ (by have:=ag.aZ;omega);simp only[ca.row] at p9;have AE:=fun L=>e0 N L;have hZ:=fun L=>iP N L;have Es:=fun L=>kg N L;have qw:=fun L=>k7 N L;clear fa gT tI;simp-implicitDefEqProofs (disch:=omega) only[go_sem,↓br 12,↓br 14,↓br 16,↓br 18,↓br 20,AE,hZ,qw,eB,hM,aI.len,aI.cell,iF,Aq,t1,lu,GP,hp,lF,t2,t3,pQ,aDQ,aW];first|refine b0 (p9) ?_|refine bV (p9) ?_
 simp-implicitDefEqProofs (disch:=omega) only[go_sem,↓br 22,hZ,qw,aI.len,iF,t4];refine ec.call (iz.app _) (fun x ab=>by rw[ht.1 ab];exact ag.lw.base rfl) (fun d_ eg bh jv c4 dF=>?_) fun qH cl ku=>?_
 . refine cj.mono (NV bh aC bR jv (AD l p) (ag.lw.base rfl) c4 dF) ?_
   rintro v dP ⟨rfl,cl,c2,cI,bv,b7⟩;exact⟨rfl,cl,c2,cI,bv,gf.one b7⟩
 simp-implicitDefEqProofs (disch:=omega) only[go_sem,↓br 32];exact c6 hi ⟨rfl,ku⟩
end Go.aQ.C
namespace Go.aQ.C
open Go.aQ
def GS(n:Net)(l:aI)(i:Nat):Bool:=match n.runs[i]? with
 |some r=>(match r.calls[0]? with|some c=>!r.gone&&decide (l.time<=c.cB)|none=>false)
 |none=>false
def oz(n:Net)(l:aI)(x:dA):Bool:=x.stay&&(decide (x.src=l.place.run)&&(decide (x.hY=l.place.cM)&&GS n l x.dst.toNat))
def yn(n:Net)(l:aI)(x:dA):List aI:=if oz n l x then m_ n l x.dst.toNat 0 true l.place.cR else[]
def sS(n:Net)(l:aI):List dA->List aI
 |[]=>[]
 |x::xs=>yn n l x++sS n l xs
def sR(n:Net)(l:aI):List aI:=sS n l n.b9
theorem aL6{n:Net}{q:Query}{aL:bd}{f h:Nat}{A Q:List aI}{O:List c7}{M:Mem}(H:cA n q aL f h A Q O M)(ok:g2 n)(aC:aL.wf)(bR:aL.hS)(et:∀o∈A,ha o)(l:aI)(ag:qF l)
 (hg:A.length+(sR n l).length<=1000000000000)(io:Q.length+(sR n l).length<=1000000000000):
 cj av Ix [.ptr f 0,.agg (l.row aL)] M (qC n q aL f h A Q O M (sR n l)):=by
 obtain⟨m,o,E,U,af,ay⟩:=H.box;obtain⟨_,CQ,o6⟩:=H.uY;have cq:=fun L=>b6 U L;have hc:=fun L=>e0 M L;simp only[iO] at cq;have fN:∀(K:Mem)(B:a2),(K++[B])[K.length]? =some B:=fun K B=>by simp
 have jL:∀(K:Mem)(B X:a2),(K++[B]).set K.length X=K++[X]:=fun K B X=>by simp
 have iF:∀l:aI,(l.row aL).take 13=l.row aL:=fun _=>rfl;have JP:((l.row aL).drop 4).take 4=l.place.cR.row:=rfl;have a9:(l.row aL)[2]? =some (.int .i64 l.place.run):=rfl;have bN:(l.row aL)[3]? =some (.int .i64 l.place.cM):=rfl;have lu:(l.row aL)[8]? =some (.int .i64 l.time):=rfl;have g4:=ok.b9;refine hx SB (by simp[Cs]) ?_;simp only[hq];simp-implicitDefEqProofs (disch:=omega) only[go_sem,Cs,eX,cq,aI.len];refine ek n.b9 (fun j vs N=>vs=[.ptr f 0,.ptr M.length 0,.slice (n.b9.map dA.row) n.lc,.int .i64 n.b9.length,.int .i64 j]/\ec n q aL f h A Q O (M++[.box (l.row aL)]) (sR n l) (sS n l (n.b9.drop j)) N)
  ⟨rfl,ec.start (H.app _) et hg io⟩ ?_ ?_;rotate_left
 . rintro vs N ⟨rfl,ak⟩
   rw[List.drop_length] at ak;simp-implicitDefEqProofs (disch:=omega) only[go_sem,↓br 5,dg];exact ak.done (ea.app f h M _)
 rintro i x vs N ab hi bf ⟨rfl,ak⟩;rw[uT ab] at ak;have vf:=ok.ok.b9.2 i x ab;obtain⟨h7,d1⟩:=vf.dst;obtain⟨uS,gR⟩:∃uS:Nat,x.dst=uS:=⟨x.dst.toNat,by omega⟩;have G8:x.dst.toNat=uS:=by omega
 obtain⟨r,al⟩:∃r,n.runs[uS]? =some r:=⟨n.runs[uS]'(by omega),by simp⟩;have de:=(ok.ok.runs.2 uS r al).2.2.2.2.2.1.1;obtain⟨c,ar⟩:∃c,r.calls[0]? =some c:=⟨r.calls[0]'(by omega),by simp⟩;obtain⟨nf,ni,lZ,kW⟩:=ak.st;obtain⟨nH,uc,EB,bH,_⟩:=lZ.box;have h9:N[M.length]? =some (.box (l.row aL)):=kW _ _ (hc _) (by omega) (by omega);have eN:∀(b:Bool),oz n l x=b->(if b then m_ n l uS 0 true l.place.cR else[])++sS n l (n.b9.drop (i+1))=sS n l (x::n.b9.drop (i+1)):=by
  intro b aj;subst aj;rw[<-G8];rfl
 have skip:oz n l x=false->ec n q aL f h A Q O (M++[.box (l.row aL)]) (sR n l) (sS n l (n.b9.drop (i+1))) N:=fun aj=>by
  rw[<-eN _ aj] at ak;exact ak
 have ux:oz n l x=true->ec n q aL f h A Q O (M++[.box (l.row aL)]) (sR n l) (m_ n l uS 0 true l.place.cR++sS n l (n.b9.drop (i+1))) N:=fun aj=>by
  have:=eN _ aj;rw[if_pos rfl] at this;rw[this];exact ak
 simp only[oz,GS,G8,al,ar] at skip ux;have hM:=fun L=>b6 h9 L;have Ea:=fun L=>b6 bH L;simp only[iO] at Ea;simp-implicitDefEqProofs (disch:=omega) only[go_sem,↓br 5,↓br 8,↓br 10,bf,ab,fN,jL,dA.row];refine cp (fun a6=>?_) (fun a6=>?_);rotate_left
 . simp-implicitDefEqProofs (disch:=omega) only[go_sem,↓br 22]
   exact c6 hi ⟨rfl,(skip (by rw[a6];rfl)).app _⟩
 simp-implicitDefEqProofs (disch:=omega) only[go_sem,fN,hM,a9];refine a5 (fun ba=>?_) (fun ba=>?_);rotate_left
 . simp-implicitDefEqProofs (disch:=omega) only[go_sem,↓br 22]
   exact c6 hi ⟨rfl,(skip (by rw[a6,decide_eq_false ba];rfl)).app _⟩
 simp-implicitDefEqProofs (disch:=omega) only[go_sem,fN,hM,bN];refine a5 (fun e3=>?_) (fun e3=>?_);rotate_left
 . simp-implicitDefEqProofs (disch:=omega) only[go_sem,↓br 22]
   exact c6 hi ⟨rfl,(skip (by rw[a6,decide_eq_true ba,decide_eq_false e3];rfl)).app _⟩
 have AE:=fun L=>e0 N L;have hZ:=fun L=>iP N L;have Es:=fun L=>kg N L;have qw:=fun L=>k7 N L;simp-implicitDefEqProofs (disch:=omega) only[go_sem,↓br 12,AE,hZ,qw,eB,Ea,eX,gR,al,bS.row];simp-implicitDefEqProofs (disch:=omega) only[go_sem,↓br 16,hZ];refine cp (fun lO=>?_) (fun lO=>?_)
 . simp-implicitDefEqProofs (disch:=omega) only[go_sem,↓br 22]
   exact c6 hi ⟨rfl,(skip (by rw[a6,decide_eq_true ba,decide_eq_true e3,lO];rfl)).app _⟩
 simp-implicitDefEqProofs (disch:=omega) only[go_sem,hZ,ar,cd.row,hM,lu];refine a5 (fun mP=>?_) (fun mP=>?_);rotate_left
 . simp-implicitDefEqProofs (disch:=omega) only[go_sem,↓br 22]
   exact c6 hi ⟨rfl,(skip (by rw[a6,decide_eq_true ba,decide_eq_true e3,lO,decide_eq_false mP];rfl)).app _⟩
 simp-implicitDefEqProofs (disch:=omega) only[go_sem,↓br 14,AE,hM,aI.len,iF,JP];refine ec.call ((ux (by rw[a6,decide_eq_true ba,decide_eq_true e3,lO,decide_eq_true mP];rfl)).app _) (fun y aD=>ag.lw.base (Oi y aD)) (fun d_ eg bh jv c4 dF=>JQ bh ok aC bR jv l ag.lw ag.aZ al ar true l.place.cR c4 dF) fun qH cl ku=>?_;simp-implicitDefEqProofs (disch:=omega) only[go_sem,↓br 22];exact c6 hi ⟨rfl,ku⟩
end Go.aQ.C
namespace Go.aQ.C
open Go.aQ
theorem PX{n:Net}{q:Query}{l:aI}{t:Int}{r:bS}{i:Nat}:∀{cs:List cd}{k:Nat},∀x∈qQ n q l t r i cs k,x.base=l.base
 |[],_,x,ab=>by cases ab
 |c::cs,k,x,ab=>(g_.1 ab).elim (abz x) (PX x)
theorem E3{n:Net}{q:Query}{l:aI}{t:Int}:∀{rs:List bS}{i:Nat},∀x∈pJ n q l t rs i,x.base=l.base
 |[],_,x,ab=>by cases ab
 |r::rs,i,x,ab=>(g_.1 ab).elim (PX x) (E3 x)
theorem Oz{q:Query}{l:aI}:∀{cP:List Path},∀x∈rR q l cP,x.base=l.base
 |[],x,ab=>by cases ab
 |p::cP,x,ab=>by
  rcases g_.1 ab with ab|ab
  . unfold yy at ab
    split at ab
    . rw[ht.1 ab];rfl
    . cases ab
  . exact Oz x ab
theorem Wn{n:Net}{l:aI}:∀{cP:List dA},∀x∈sS n l cP,x.base=l.base
 |[],x,ab=>by cases ab
 |p::cP,x,ab=>by
  rcases g_.1 ab with ab|ab
  . unfold yn at ab
    split at ab
    . exact Oi x ab
    . cases ab
  . exact Wn x ab
def yT(n:Net)(l:aI):Bool:=match(kR n l.place.run.toNat)[l.place.cM.toNat]? with
 |some c=>c.gP
 |none=>false
def ll(l:aI):aI:={l with base:=l.place.cR::l.base}
def m6(n:Net)(q:Query)(l:aI)(t:Int):List aI:=lm n q l t++uv n q l
def ud(n:Net)(q:Query)(l:aI):List aI:=if yT n l then m6 n q (ll l) (l.time+r7 n l.place.stop) else[]
def wW(n:Net)(q:Query)(l:aI):List aI:=sR n l++ud n q l
def kV(n:Net)(q:Query)(l:aI):List c7:=if l.place.stop=q.dst then tk n q l else[]
def th(n:Net)(q:Query)(l:aI):List c7:=if yT n l then kV n q l else[]
def m8(n:Net)(q:Query)(l:aI):Int:=if q.A1 then l.time+r7 n l.place.stop else l.time
def mz(n:Net)(q:Query)(l:aI):List aI:=
 if l.place.kind=1 then wW n q l else if l.place.kind=2 then lm n q l l.time else m6 n q l (m8 n q l)
def pA(n:Net)(q:Query)(l:aI):List c7:=if l.place.kind=1 then th n q l else kV n q l
theorem yL.wf{x:ca}(h:yL x):x.wf:=by
 obtain⟨⟨_,_⟩,_,_⟩:=h;exact⟨by unfold el;omega,by unfold el;omega⟩
section
variable{n:Net}{q:Query}{aL:bd}{f h:Nat}{A Q:List aI}{O:List c7}{gO M N dP:Mem}{full dD L:List aI}
theorem ec.aNk(H:ec n q aL f h A Q O gO full dD N)(cl:ea f h M gO):ec n q aL f h A Q O M full dD N:=by
 obtain⟨d_,eg,ak,nn,et⟩:=H;exact⟨d_,eg,ak,cl.trans nn,et⟩
theorem ec.uo(H:ec n q aL f h A Q O gO full dD N){p:Nat}{cs:List V}(ax:N[p]? =some (.box cs))(LI:gO.length<=p)(nx:p≠f)(xw:p≠h)(B:a2):ec n q aL f h A Q O gO full dD (N.set p B):=by
 obtain⟨d_,eg,ak,nn,et⟩:=H;exact⟨d_,eg,ak.uo ax nx xw B,nn.uo LI B,et⟩
theorem ec.finish{K:V->Mem->Prop}(H:ec n q aL f h A Q O gO full dD N)(aK:n.wf)(ok:g2 n)(l:aI)(ag:qF l)(aj:O.length+1<=1000000000000)
 (ao:∀dP,ea f h N dP->ec n q aL f h A Q (O++tk n q l) gO full dD dP->K (.tuple []) dP):@qz av xO [.ptr f 0,.agg (l.row aL)] N ⟨K⟩:=by
 obtain⟨d_,eg,ak,cl,et⟩:=H;refine ew (aLr ak aK ok l (by have:=ag.aZ;omega) (fun x ab=>(ag.tX x ab).wf) aj) ?_;rintro v dP ⟨rfl,Cy,k0⟩;exact ao dP Cy ⟨d_,eg,k0,cl.trans Cy,et⟩
end
theorem Q_{n:Net}{q:Query}{aL:bd}{f h:Nat}{A Q:List aI}{O:List c7}{gO N:Mem}{full:List aI}(ok:g2 n)(aC:aL.wf)(bR:aL.hS)(l:aI)(ag:qF l)(G1:l.base.length<8)(lX:l.place.cR.wf)
 {i k:Nat}{r:bS}{c:cd}(al:n.runs[i]? =some r)(ar:r.calls[k]? =some c)(e2:l.place.stop=c.stop)(H:ec n q aL f h A Q O gO full (m6 n q (ll l) (l.time+r7 n l.place.stop)) N)
 {p:Nat}(ax:N[p]? =some (.box (l.row aL)))(LI:gO.length<=p)(nx:p≠f)(xw:p≠h)(s:aH)(D4:aY s 0=.ptr f 0)(sF:aY s 3=.ptr p 0)(P:Exit->aH->Mem->Prop)(LK:∀dP,ec n q aL f h A Q O gO full [] dP->P .normal [] dP):dv av P7 P s N:=by
 have iF:∀l:aI,(l.row aL).take 13=l.row aL:=fun _=>rfl;have JP:((l.row aL).drop 4).take 4=l.place.cR.row:=rfl;have aW:(l.row aL)[1]? =some (.int .i64 l.place.stop):=rfl;have GQ:(l.row aL)[11]? =some (f7 aL l.base):=rfl;obtain⟨s,ak,s0,_,_,_,s1,ds,vY⟩:=E5 ok al ar;rw[<-e2] at ak s0 s1;obtain⟨⟨_,_⟩,⟨_,_⟩⟩:=And.intro ag.time ag.walk;have aEe:=O_ aL l.place.cR aC bR lX ag.lw.1 G1;simp-implicitDefEqProofs (disch:=omega) only[go_sem,↓br 11,↓br 23,sF,ax,aI.len,GQ,JP];refine fI aEe ?_ (by simp only[cS,GO];rfl);rintro v rfl;obtain⟨cs,eN⟩:∃cs,f7 aL (l.place.cR::l.base)=.cN cs:=⟨_,uZ ..⟩;obtain⟨v8,sT⟩:=Lt aL (l.place.cR::l.base);have t1:(l.row aL).set 11 (f7 aL (l.place.cR::l.base))=(ll l).row aL:=rfl;rw[eN] at v8 sT t1;have G2:qF (ll l):=⟨⟨fun x ab=>(jm.1 ab).elim (fun e=>e▸lX) (ag.lw.1 x),by show l.base.length+1<=8;omega⟩,ag.aZ,ag.fF,ag.NL,ag.tX,ag.time,ag.walk⟩;obtain⟨fH,q3⟩:∃fH,fH=N.set p (.box ((ll l).row aL)):=⟨_,rfl⟩;have iz:ec n q aL f h A Q O gO full (m6 n q (ll l) (l.time+r7 n l.place.stop)) fH:=by rw[q3];exact H.uo ax LI nx xw _
 have nw:fH[p]? =some (.box ((ll l).row aL)):=by rw[q3];exact eC (bn.1 ax).1
 have lu:((ll l).row aL)[8]? =some (.int .i64 l.time):=rfl;have tr:((ll l).row aL)[1]? =some (.int .i64 l.place.stop):=rfl;have hp:IntKind.i64.wrap (l.time+s.change)=l.time+s.change:=qv _ (by omega) (by omega);obtain⟨nf,ni,lZ,_⟩:=iz.st;obtain⟨nH,uc,EB,bH,_⟩:=lZ.box;simp only[iO] at bH;simp-implicitDefEqProofs (disch:=omega) only[go_sem,↓br 13,↓br 15,D4,sF,ax,eN,aI.len,t1];rw[<-q3];simp-implicitDefEqProofs (disch:=omega) only[go_sem,↓br 17,eX,nw,bH,aI.len,iF,lu,tr,ak,Stop.row,hp];rw[<-s1];refine ec.call iz (fun x ab=>G2.lw.base (E3 x ab)) (fun d_ eg bh jv c4 dF=>KF bh ok aC bR jv (ll l) G2 _ c4 dF) fun ii cl ly=>?_;have aGu:=cl _ _ nw nx xw;simp-implicitDefEqProofs (disch:=omega) only[go_sem,↓br 19,aGu,aI.len,iF];rw[<-fU (uv n q (ll l))] at ly;refine ec.call ly (fun x ab=>G2.lw.base (Oz x ab)) (fun d_ eg bh jv c4 dF=>Xe bh ok aC bR jv (ll l) G2 c4 dF) fun qH GN ku=>?_;exact LK qH ku
theorem aBw{n:Net}{q:Query}{aL:bd}{f h:Nat}{A Q:List aI}{O:List c7}{M:Mem}(H:cA n q aL f h A Q O M)(aK:n.wf)(ok:g2 n)(aC:aL.wf)(bR:aL.hS)(et:∀o∈A,ha o)(l:aI)(ag:qF l)(G1:l.base.length<8)(lX:l.place.cR.wf)
 {i k:Nat}{r:bS}{c:cd}(al:n.runs[i]? =some r)(ar:r.calls[k]? =some c)(mX:l.place.run=i)(Hk:l.place.cM=k)(e2:l.place.stop=c.stop)
 (hg:A.length+(wW n q l).length<=1000000000000)(io:Q.length+(wW n q l).length<=1000000000000)(sg:O.length+1<=1000000000000):
 cj av Iu [.ptr f 0,.agg (l.row aL)] M (qC n q aL f h A Q (O++th n q l) M (wW n q l)):=by
 obtain⟨_,CQ,o6⟩:=H.uY;have hc:=fun L=>e0 M L;have iF:∀l:aI,(l.row aL).take 13=l.row aL:=fun _=>rfl;have JP:((l.row aL).drop 4).take 4=l.place.cR.row:=rfl;have aW:(l.row aL)[1]? =some (.int .i64 l.place.stop):=rfl;have a9:(l.row aL)[2]? =some (.int .i64 (i:Int)):=by rw[<-mX];rfl
 have bN:(l.row aL)[3]? =some (.int .i64 (k:Int)):=by rw[<-Hk];rfl
 have GQ:(l.row aL)[11]? =some (f7 aL l.base):=rfl;obtain⟨s,ak,s0,_,_,_,s1,ds,vY⟩:=E5 ok al ar;have kq:yT n l=c.gP:=by simp only[yT,kR,mX,Hk,lI,al,ar]
 obtain⟨⟨_,_⟩,⟨_,_⟩⟩:=And.intro ag.time ag.walk;refine hx Sx (by simp[Co]) ?_;simp only[hq];simp-implicitDefEqProofs (disch:=omega) only[go_sem,Co,hc,aI.len,iF];have bh:ec n q aL f h A Q O (M++[.box (l.row aL)]) (wW n q l) (sR n l++ud n q l) (M++[.box (l.row aL)]):=ec.start (H.app _) et hg io;refine ec.call bh (fun x ab=>ag.lw.base (Wn x ab)) (fun d_ eg bh jv c4 dF=>aL6 bh ok aC bR jv l ag c4 dF) fun N nn sw=>?_;have h9:N[M.length]? =some (.box (l.row aL)):=nn _ _ (hc _) (by omega) (by omega);obtain⟨nf,ni,lZ,kW⟩:=sw.st;obtain⟨nH,uc,EB,bH,_⟩:=lZ.box;have iW:=bH;simp only[iO] at iW;simp-implicitDefEqProofs (disch:=omega) only[go_sem,↓br 5,eX,h9,iW,a9,bN,al,bS.row,ar,cd.row];refine cp (fun a6=>?_) (fun a6=>?_);rotate_left
 . simp-implicitDefEqProofs (disch:=omega) only[go_sem]
   have Mv:ud n q l=[]:=by unfold ud;rw[kq,a6];rfl
   rw[Mv] at sw;have ab:th n q l=[]:=by unfold th;rw[kq,a6];rfl
   rw[ab,fU];exact sw.done (ea.app f h M _)
 have Mv:ud n q l=m6 n q (ll l) (l.time+r7 n l.place.stop):=by unfold ud;rw[kq,a6];rfl
 have ab:th n q l=kV n q l:=by unfold th;rw[kq,a6];rfl
 rw[ab];rw[Mv] at sw;have iz:=sw.aNk (ea.app f h M _);simp-implicitDefEqProofs (disch:=omega) only[go_sem,↓br 9,eX,h9,iW,aW];refine a5 (fun ba=>?_) (fun ba=>?_)
 . simp-implicitDefEqProofs (disch:=omega) only[go_sem,↓br 7,h9,aI.len,iF]
   refine ec.finish iz aK ok l ag sg fun fH pP ly=>?_;have aF1:=pP _ _ h9 (by omega) (by omega);simp-implicitDefEqProofs (disch:=omega) only[go_sem];refine Q_ ok aC bR l ag G1 lX al ar e2 ly aF1 (cF _) (by omega) (by omega) _ rfl rfl _ fun qH ku=>?_;simp-implicitDefEqProofs (disch:=omega) only[go_sem];rw[show kV n q l=tk n q l from if_pos ba];exact ku.done (ea.refl f h M)
 . simp-implicitDefEqProofs (disch:=omega) only[go_sem]
   refine Q_ ok aC bR l ag G1 lX al ar e2 iz h9 (cF _) (by omega) (by omega) _ rfl rfl _ fun qH ku=>?_;simp-implicitDefEqProofs (disch:=omega) only[go_sem];rw[show kV n q l=[] from if_neg ba,fU];exact ku.done (ea.refl f h M)
end Go.aQ.C
namespace Go.aQ.C
open Go.aQ
structure EG(n:Net)(l:aI):Prop where
 stop:∃s,n.stops[l.place.stop.toNat]? =some s/\0<=l.place.stop/\r7 n l.place.stop=s.change/\0<=s.change/\s.change<=3600
 aOO:l.place.kind=1->l.base.length<8/\l.place.cR.wf/\∃(i k:Nat)(r:bS)(c:cd),n.runs[i]? =some r/\r.calls[k]? =some c/\l.place.run=i/\l.place.cM=k/\l.place.stop=c.stop
theorem aM_{n:Net}{q:Query}{aL:bd}{f h:Nat}{A Q:List aI}{O:List c7}{M:Mem}(H:cA n q aL f h A Q O M)(aK:n.wf)(ok:g2 n)(aC:aL.wf)(bR:aL.hS)(et:∀o∈A,ha o)(l:aI)(ag:qF l)(ao:EG n l)
 (hg:A.length+(mz n q l).length<=1000000000000)(io:Q.length+(mz n q l).length<=1000000000000)(sg:O.length+1<=1000000000000):
 cj av Iz [.ptr f 0,.agg (l.row aL)] M (qC n q aL f h A Q (O++pA n q l) M (mz n q l)):=by
 obtain⟨_,CQ,o6⟩:=H.uY;have hc:=fun L=>e0 M L;have iF:∀l:aI,(l.row aL).take 13=l.row aL:=fun _=>rfl;have q0:(l.row aL)[0]? =some (.int .i64 l.place.kind):=rfl;have aW:(l.row aL)[1]? =some (.int .i64 l.place.stop):=rfl;have lu:(l.row aL)[8]? =some (.int .i64 l.time):=rfl;obtain⟨m,o,E,U,af,ay⟩:=H.box;have cq:=fun L=>b6 U L;simp only[iO] at cq;obtain⟨⟨s,ak,s0,s1,ds,vY⟩,vq⟩:=ao;obtain⟨⟨_,_⟩,⟨_,_⟩⟩:=And.intro ag.time ag.walk;have hp:IntKind.i64.wrap (l.time+s.change)=l.time+s.change:=qv _ (by omega) (by omega);have wl:=fun L=>H.app L;refine hx SE (by simp[Cv]) ?_;simp only[hq];simp-implicitDefEqProofs (disch:=omega) only[go_sem,Cv,hc,aI.len,q0];refine a5 (fun a6=>?_) (fun a6=>?_)
 . rw[show mz n q l=wW n q l from if_pos a6] at hg io⊢
   rw[show pA n q l=th n q l from if_pos a6];obtain⟨v8,sT,i,k,r,c,nc,mC,Em,aMU,aMV⟩:=vq a6;simp-implicitDefEqProofs (disch:=omega) only[go_sem,↓br 5,hc,aI.len,iF];refine ew (aBw (H.app _) aK ok aC bR et l ag v8 sT nc mC Em aMU aMV hg io sg) ?_;rintro v N ⟨rfl,cl,eL⟩;simp-implicitDefEqProofs (disch:=omega) only[go_sem];exact⟨rfl,(ea.app f h M _).trans cl,eL⟩
 rw[show pA n q l=kV n q l from if_neg a6];simp-implicitDefEqProofs (disch:=omega) only[go_sem,↓br 32];refine a5 (fun ba=>?_) (fun ba=>?_)
 . rw[show mz n q l=lm n q l l.time by unfold mz;rw[if_neg a6,if_pos ba]] at hg io⊢
   have bh:ec n q aL f h A Q O (M++[.box (l.row aL)]) (lm n q l l.time) (lm n q l l.time++[]) (M++[.box (l.row aL)]):=by rw[fU];exact ec.start (H.app _) et hg io
   have tail:∀N,ec n q aL f h A Q (O++kV n q l) (M++[.box (l.row aL)]) (lm n q l l.time) (lm n q l l.time++[]) N->dv av Qj (pI 0 (pN [] (rq (qC n q aL f h A Q (O++kV n q l) M (lm n q l l.time))))) [(0,.ptr f 0),(3,.ptr M.length 0)] N:=by
    intro N db;obtain⟨nf,ni,lZ,kW⟩:=db.st;have h9:=kW _ _ (hc _) (by omega) (by omega);simp-implicitDefEqProofs (disch:=omega) only[go_sem,↓br 11,h9,aI.len,iF,lu];refine ec.call db (fun x ab=>ag.lw.base (E3 x ab)) (fun d_ eg bh jv c4 dF=>KF bh ok aC bR jv l ag _ c4 dF) fun ii cl ly=>?_;simp-implicitDefEqProofs (disch:=omega) only[go_sem];exact ly.done (ea.app f h M _)
   simp-implicitDefEqProofs (disch:=omega) only[go_sem,↓br 9,↓br 12,eX,hc,cq,aW];refine a5 (fun e3=>?_) (fun e3=>?_)
   . simp-implicitDefEqProofs (disch:=omega) only[go_sem,↓br 7,hc,aI.len,iF]
     refine ec.finish bh aK ok l ag sg fun fH pP ly=>?_;simp-implicitDefEqProofs (disch:=omega) only[go_sem];refine tail fH ?_;rw[show kV n q l=tk n q l from if_pos e3];exact ly
   . simp-implicitDefEqProofs (disch:=omega) only[go_sem]
     refine tail _ ?_;rw[show kV n q l=[] from if_neg e3,fU];exact bh
 rw[show mz n q l=m6 n q l (m8 n q l) by unfold mz;rw[if_neg a6,if_neg ba]] at hg io⊢;have bh:ec n q aL f h A Q O (M++[.box (l.row aL)]) (m6 n q l (m8 n q l)) (m6 n q l (m8 n q l)) (M++[.box (l.row aL)]):=ec.start (H.app _) et hg io;have aMs:∀N,ec n q aL f h A Q (O++kV n q l) (M++[.box (l.row aL)]) (m6 n q l (m8 n q l)) (m6 n q l (m8 n q l)) N->N[M.length]? =some (.box (l.row aL))->
  dv av Qk (pI 0 (pN [] (rq (qC n q aL f h A Q (O++kV n q l) M (m6 n q l (m8 n q l)))))) [(0,.ptr f 0),(3,.ptr M.length 0),(4,.int .i64 (m8 n q l))] N:=by
  intro N db h9;simp-implicitDefEqProofs (disch:=omega) only[go_sem,↓br 24,↓br 27,h9,aI.len,iF];refine ec.call db (fun x ab=>ag.lw.base (E3 x ab)) (fun d_ eg bh jv c4 dF=>KF bh ok aC bR jv l ag _ c4 dF) fun ii cl ly=>?_;have aF2:=cl _ _ h9 (by omega) (by omega);rw[<-fU (uv n q l)] at ly;simp-implicitDefEqProofs (disch:=omega) only[go_sem,↓br 26,aF2,aI.len,iF];refine ec.call ly (fun x ab=>ag.lw.base (Oz x ab)) (fun d_ eg bh jv c4 dF=>Xe bh ok aC bR jv l ag c4 dF) fun qH GN ku=>?_;simp-implicitDefEqProofs (disch:=omega) only[go_sem];exact ku.done (ea.app f h M _)
 have tail:∀N,ec n q aL f h A Q (O++kV n q l) (M++[.box (l.row aL)]) (m6 n q l (m8 n q l)) (m6 n q l (m8 n q l)) N->dv av Ql (pI 0 (pN [] (rq (qC n q aL f h A Q (O++kV n q l) M (m6 n q l (m8 n q l)))))) [(0,.ptr f 0),(3,.ptr M.length 0)] N:=by
  intro N db;obtain⟨nf,ni,lZ,kW⟩:=db.st;have h9:=kW _ _ (hc _) (by omega) (by omega);obtain⟨nH,uc,EB,bH,_⟩:=lZ.box;simp only[iO] at bH;have t2:=aMs N db h9;simp-implicitDefEqProofs (disch:=omega) only[go_sem,↓br 18,↓br 22,↓br 29,h9,lu,eX,bH];refine cp (fun lO=>?_) (fun lO=>?_)
  . have bv:m8 n q l=l.time+s.change:=by unfold m8;rw[if_pos lO,s1]
    rw[bv] at t2⊢;simp-implicitDefEqProofs (disch:=omega) only[go_sem,↓br 20,h9,aW,eX,bH,ak,Stop.row,hp];exact t2
  . have bv:m8 n q l=l.time:=by unfold m8;rw[if_neg (by rw[lO];exact Bool.noConfusion)]
    rw[bv] at t2⊢;simp-implicitDefEqProofs (disch:=omega) only[go_sem];exact t2
 simp-implicitDefEqProofs (disch:=omega) only[go_sem,↓br 16,↓br 30,eX,hc,cq,aW];refine a5 (fun e3=>?_) (fun e3=>?_)
 . simp-implicitDefEqProofs (disch:=omega) only[go_sem,↓br 14,hc,aI.len,iF]
   refine ec.finish bh aK ok l ag sg fun fH pP ly=>?_;simp-implicitDefEqProofs (disch:=omega) only[go_sem];refine tail fH ?_;rw[show kV n q l=tk n q l from if_pos e3];exact ly
 . simp-implicitDefEqProofs (disch:=omega) only[go_sem]
   refine tail _ ?_;rw[show kV n q l=[] from if_neg e3,fU];exact bh
end Go.aQ.C
namespace Go.aQ.C
open Go.aQ
theorem cA.Jh{n:Net}{q:Query}{aL:bd}{f h:Nat}{A Q cI:List aI}{O:List c7}{M ah:Mem}(H:cA n q aL f h A Q O M)(aG:mL aL ah h cI)(cl:ft h M ah):cA n q aL f h A cI O ah:=by
 obtain⟨cr,gS,Ty⟩:=H.uY;obtain⟨⟨m,o,E,U,af,ay⟩,be⟩:=H;obtain⟨cs,eN⟩:∃cs,M[h]? =some (.box cs):=by
  obtain⟨c,⟨bH,_⟩|⟨a,ver,l,b3,bH,_⟩⟩:=be
  . exact⟨_,bH⟩
  . exact⟨_,bH.h⟩
 refine⟨⟨m,o,E,cl _ _ U cr (by intro _ _ _ e;cases e),af.fJ fun i R ver hi=>?_,ay.fJ ?_ fun i R ver hi=>?_⟩,aG⟩
 . exact cl _ _ hi (fun e=>by rw[e,eN] at hi;cases hi) (by intro _ _ _ e;cases e)
 . rw[ay.map];exact cl _ _ ay.map (fun e=>by have:=ay.map;rw[e,eN] at this;cases this) (by intro _ _ _ e;cases e)
 . exact cl _ _ hi (fun e=>by rw[e,eN] at hi;cases hi) (by intro _ _ _ e;cases e)
def dE{α:Type}(f:α->Nat):List α->Nat
 |[]=>0
 |x::xs=>f x+dE f xs
theorem up{α:Type}(f:α->Nat):∀a b:List α,dE f (a++b)=dE f a+dE f b
 |[],b=>by simp[dE]
 |x::a,b=>by simp only[List.cons_append,dE,up f a b];omega
theorem aMh{α:Type}(f:α->Nat){a b:List α}(h:a.Perm b):dE f a=dE f b:=by
 induction h with
 |nil=>rfl
 |cons x _ bq=>simp only[dE,bq]
 |swap x y l=>simp only[dE];omega
 |trans _ _ U af=>exact U.trans af
theorem JK{α:Type}{f:α->Nat}:∀{l:List α},(∀x∈l,1<=f x)->l.length<=dE f l
 |[],_=>cF _
 |x::l,h=>by
  have:=JK (l:=l) fun y aD=>h y (oG _ aD);have:=h x (List.mem_cons_self ..);simp only[dE,dz];omega
theorem nV.sum{A Q c2 cI:List aI}{l:aI}(h:nV A Q l c2 cI)(w:aI->Nat):dE w cI<=dE w Q+w l:=by
 rcases h with⟨rfl,rfl,_⟩|⟨rfl,rfl⟩
 . omega
 . rw[up];simp[dE]
theorem gf.sum(w:aI->Nat):∀{ls A Q c2 cI:List aI},gf A Q ls c2 cI->dE w cI<=dE w Q+dE w ls
 |[],A,Q,c2,cI,h=>by obtain⟨rfl,rfl⟩:=h;simp[dE]
 |l::ls,A,Q,c2,cI,⟨d_,eg,U,af⟩=>by
  have a:=U.sum w;have b:=gf.sum w af;simp only[dE];omega
theorem gf.diff:∀{ls A Q c2 cI:List aI},gf A Q ls c2 cI->c2.length+Q.length=A.length+cI.length
 |[],A,Q,c2,cI,h=>by obtain⟨rfl,rfl⟩:=h;rfl
 |l::ls,A,Q,c2,cI,⟨d_,eg,U,af⟩=>by
  have b:=gf.diff af;rcases U with⟨rfl,rfl,_⟩|⟨rfl,rfl⟩
  . exact b
  . simp only[dT,List.length_singleton] at b;omega
theorem sX.refl(l:aI):sX l l:=⟨by omega,by omega,by omega⟩
theorem nV.grow{A Q c2 cI:List aI}{l:aI}(h:nV A Q l c2 cI):(∀o∈A,o∈c2)/\(∀o∈c2,o∈A∨o∈cI)/\(∀o∈Q,o∈cI)/\∃o∈c2,o.place=l.place/\sX o l:=by
 rcases h with⟨rfl,rfl,o,U,af⟩|⟨rfl,rfl⟩
 . exact⟨fun _ h=>h,fun _ h=>.inl h,fun _ h=>h,o,U,af⟩
 . refine⟨fun _ h=>List.mem_append_left _ h,fun o az=>?_,fun _ h=>List.mem_append_left _ h,l,by simp,rfl,sX.refl l⟩
   rcases g_.1 az with az|az
   . exact .inl az
   . exact .inr (List.mem_append_right _ az)
theorem gf.grow:∀{ls A Q c2 cI:List aI},gf A Q ls c2 cI->(∀o∈A,o∈c2)/\(∀o∈c2,o∈A∨o∈cI)/\(∀o∈Q,o∈cI)/\∀l∈ls,∃o∈c2,o.place=l.place/\sX o l
 |[],A,Q,c2,cI,h=>by
  obtain⟨rfl,rfl⟩:=h;exact⟨fun _ h=>h,fun _ h=>.inl h,fun _ h=>h,fun _ h=>by cases h⟩
 |l::ls,A,Q,c2,cI,⟨d_,eg,U,af⟩=>by
  obtain⟨bU,b4,cG,o,dl,eY⟩:=U.grow;obtain⟨c4,dF,mN,f6⟩:=gf.grow af;refine⟨fun x ab=>c4 x (bU x ab),fun x ab=>?_,fun x ab=>mN x (cG x ab),fun x ab=>?_⟩
  . rcases dF x ab with h|h
    . exact(b4 x h).imp_right (mN x)
    . exact .inr h
  . rcases jm.1 ab with rfl|ab
    . exact⟨o,c4 o dl,eY⟩
    . exact f6 x ab
def Followed(n:Net)(q:Query)(A:List aI)(O:List c7)(l:aI):Prop:=(∀x∈mz n q l,∃o∈A,o.place=x.place/\sX o x)/\∀o∈pA n q l,o∈O
def oy(q:Query):aI:=⟨⟨0,q.src,0,0,⟨0,0,0,0⟩⟩,q.time,0,0,[],[],.nil⟩
theorem aM8(n:Net)(q:Query)(l:aI):(pA n q l).length<=1:=by
 have h:(kV n q l).length<=1:=by
  unfold kV tk;split
  . split<;>simp
  . simp
 unfold pA;split
 . unfold th
   split
   . exact h
   . simp
 . exact h
structure Z7(n:Net)(q:Query)(aL:bd)(f h:Nat)(dy:aI->Prop)(k9:aI->Nat)(gO:Mem)(m:Nat)(A Q:List aI)(O:List c7)(M:Mem):Prop where
 st:cA n q aL f h A Q O M
 Kn:∀l∈A,dy l
 NI:∀l∈Q,dy l
 sum:dE k9 Q=m
 Pv:A.length+m<=400000000000+Q.length
 ol:O.length+m<=400000000000
 Lq:∀l∈A,l∈Q∨Followed n q A O l
 from_:∀o∈O,∃l,dy l/\o∈pA n q l
 start:oy q∈A
 cl:ea f h gO M
theorem aLk{n:Net}{q:Query}{aL:bd}{f h:Nat}{M:Mem}(H:cA n q aL f h [] [] [] M)(aK:n.wf)(ok:g2 n)(aC:aL.wf)(bR:aL.hS)(dy:aI->Prop)(k9:aI->Nat)(lv:∀l,dy l->qF l/\EG n l)(tN:∀l,dy l->∀x∈mz n q l,dy x)
 (Uf:∀l,dy l->dE k9 (mz n q l)+1<=k9 l)(bh:dy (oy q))(eu:k9 (oy q)<=400000000000):
 cj av Iw [.ptr f 0,f7 aL []] M (fun v ah=>v=.tuple []/\ea f h M ah/\∃A O,cA n q aL f h A [] O ah/\oy q∈A/\(∀l∈A,dy l)/\(∀l∈A,Followed n q A O l)/\O.length<=400000000000/\∀o∈O,∃l,dy l/\o∈pA n q l):=by
 have fN:∀(K:Mem)(B:a2),(K++[B])[K.length]? =some B:=fun K B=>by simp
 have jL:∀(K:Mem)(B X:a2),(K++[B]).set K.length X=K++[X]:=fun K B X=>by simp
 have iF:∀l:aI,(l.row aL).take 13=l.row aL:=fun _=>rfl;have pc:∀l,dy l->1<=k9 l:=fun l ag=>by have:=Uf l ag;omega
 obtain⟨m,o,E,U,af,ay⟩:=H.box;have cq:=U;simp only[iO] at cq;obtain⟨cs,eN⟩:∃cs,f7 aL []=.cN cs:=⟨_,rfl⟩;have iq:(oy q).row aL=[.int .i64 0,.int .i64 q.src,.int .i64 0,.int .i64 0,.int .i64 0,.int .i64 0,.int .i64 0,.int .i64 0,.int .i64 q.time,.int .i64 0,.int .i64 0,.cN cs,.slice [] .nil]:=by rw[<-eN];rfl
 refine hx SA (by simp[Cr]) ?_;simp only[hq];rw[eN];simp-implicitDefEqProofs (disch:=omega) only[go_sem,Cr,eX,cq];rw[<-iq];refine ew (NV H aC bR (fun _ h=>by cases h) (oy q) ⟨fun _ h=>(mF h).elim,fG _⟩ (by decide) (by decide)) ?_;rintro v aNS ⟨rfl,tp,XC,Z0,Hp,Ta⟩;obtain⟨rfl,rfl⟩:XC=[oy q]/\Z0=[oy q]:=by
  rcases Ta with⟨_,_,o,az,_⟩|h
  . cases az
  . exact h
 clear Ta ay af cq U;simp-implicitDefEqProofs (disch:=omega) only[go_sem];refine oC (fun m vs N=>vs=[.ptr f 0]/\∃A Q O,Z7 n q aL f h dy k9 M m A Q O N) (k9 (oy q)) ⟨rfl,_,_,_,Hp,?_,?_,?_,?_,?_,?_,?_,?_,tp⟩ ?_
 . intro l ag;rw[ht.1 ag];exact bh
 . intro l ag;rw[ht.1 ag];exact bh
 . rfl
 . simp only[List.length_singleton];omega
 . simp only[gZ];omega
 . exact fun l ag=>.inl ag
 . intro _ h;cases h
 . exact ht.2 rfl
 rintro m vs N ⟨rfl,A,Q,O,R⟩;obtain⟨jA,mA,aNQ,bH,_⟩:=R.st.box;simp only[iO] at bH;have C8:=JK (f:=k9) fun l ag=>pc l (R.NI l ag);have kq:=R.Pv;have xu:=R.ol;have Db:=R.sum;simp-implicitDefEqProofs (disch:=omega) only[go_sem,↓br 3,eX,bH];refine me (Z1 R.st.qq) ?_;simp-implicitDefEqProofs (disch:=omega) only[go_sem];refine a5 (fun a6=>?_) (fun a6=>?_);rotate_left
 . obtain rfl:Q=[]:=by
    match Q,a6 with
    |[],_=>rfl
    |_::_,a6=>exact absurd (by simp only[dz];omega) a6
   simp-implicitDefEqProofs (disch:=omega) only[go_sem];exact⟨R.cl,A,O,R.st,R.start,R.Kn,fun l ag=>(R.Lq l ag).resolve_left (by simp),by omega,R.from_⟩
 simp-implicitDefEqProofs (disch:=omega) only[go_sem,↓br 5,eX,bH];refine ew (Z3 R.st.qq (by omega) (by omega)) ?_;rintro v dY ⟨x,cI,rfl,rh,C4,SN⟩;have sw:=R.st.Jh rh SN;have aHh:x∈Q:=C4.subset (List.mem_cons_self ..);have zh:=R.NI x aHh;obtain⟨bY,iR⟩:=lv x zh;have e2:=aMh k9 C4;have lV:=C4.length_eq;have aOE:=Uf x zh;have vl:=JK (f:=k9) fun l ag=>pc l (tN x zh l ag);simp only[dE,dz] at e2 lV;simp-implicitDefEqProofs (disch:=omega) only[go_sem,↓br 7,fN,jL,aI.len,aI.cell];refine ew (aM_ (sw.app _) aK ok aC bR (fun o az=>(lv o (R.Kn o az)).1.lw) x bY iR (by omega) (by omega) (by omega)) ?_;rintro v fH ⟨rfl,pP,yE,yP,iz,jf⟩;have aOi:=jf.diff;have ak:=jf.sum k9;have j_:=aM8 n q x;obtain⟨SU,aDM,aDN,aDO⟩:=jf.grow;simp-implicitDefEqProofs (disch:=omega) only[go_sem];refine .inl ⟨dE k9 yP,by omega,rfl,yE,yP,O++pA n q x,iz,jf.all R.Kn (tN x zh),jf.Jy (fun l ag=>R.NI l (C4.subset (oG _ ag))) (tN x zh),rfl,by omega,by rw[dT];omega,fun l ag=>?_,fun o az=>?_,SU _ R.start,R.cl.trans ((ea.Jh SN).trans ((ea.app f h dY _).trans pP))⟩
 . have mono:Followed n q A O l->Followed n q yE (O++pA n q x) l:=fun⟨f1,f2⟩=>
    ⟨fun y aD=>by obtain⟨o,U,af⟩:=f1 y aD;exact⟨o,SU o U,af⟩,fun o az=>List.mem_append_left _ (f2 o az)⟩
   rcases aDM l ag with h|h
   . rcases R.Lq l h with h|h
     . rcases jm.1 (C4.symm.subset h) with rfl|h
       . exact .inr ⟨aDO,fun o az=>List.mem_append_right _ az⟩
       . exact .inl (aDN l h)
     . exact .inr (mono h)
   . exact .inl h
 . rcases g_.1 az with az|az
   . exact R.from_ o az
   . exact⟨x,zh,az⟩
end Go.aQ.C
namespace Go.aQ.C
open Go.aQ
def plain(q:Query):Query:={q with free:=false,wB:=false,eP:=0}
structure OQ(n:Net)(q:Query)(dy:aI->Prop)(k9:aI->Nat):Prop where
 inv:∀l,dy l->qF l/\EG n l
 next:∀l,dy l->∀x∈mz n q l,dy x
 dec:∀l,dy l->dE k9 (mz n q l)+1<=k9 l
 start:dy (oy q)
 small:k9 (oy q)<=400000000000
structure Found(n:Net)(q:Query)(dy:aI->Prop)(A:List aI)(O:List c7):Prop where
 start:oy q∈A
 inv:∀l∈A,dy l
 Lq:∀l∈A,Followed n q A O l
 len:O.length<=400000000000
 from_:∀o∈O,∃l,dy l/\o∈pA n q l
theorem qI.freeze{M:Mem}{v:V}{O:List c7}(H:qI M v O):∃c ah,oj v M=some (.slice (O.map c7.row) c,ah)/\∀(i:Nat) cs,M[i]? =some (.box cs)->ah[i]? =some (.box cs):=by
 rcases H with⟨rfl,rfl⟩|⟨b,ver,rfl,af,ay⟩
 . exact⟨_,_,rfl,fun _ _ h=>h⟩
 . have a6:(ver==ver)=true:=beq_self_eq_true _
   have ba:decide (O.length<=(O.map c7.row).length)=true:=decide_eq_true (by simp);have e3:(O.map c7.row).take O.length=O.map c7.row:=g1 (by simp);refine⟨.cv,M.set b (.arr 7 (O.map c7.row) ver (max 0 O.length)),?_,fun i cs h=>?_⟩
   . simp only[oj,af,a6,ba,eR,cond_true,decide_eq_true ay,e3]
   . rw[dx fun e=>by subst e;rw[af] at h;cases h];exact h
theorem aLx(n:Net)(q:Query)(aK:n.wf)(ok:g2 n)(aG:qK n.stops.length q)(aj:q.back=false)(dy:aI->Prop)(k9:aI->Nat)(g:OQ (gF n q) (plain q) dy k9):
 bQ av DD [.agg n.row,.agg q.row] (fun v=>∃A O,v=.tuple [.slice ((r8 O).map c7.row) .cv,.int .i64 0]/\Found (gF n q) (plain q) dy A O):=by
 have kq:=OK n q aK ok aG;have aEq:=PC n q aK;have ff:=Kp n q ok;have bh:=(Pa n.cY aK.cY);have tx:(j6 n.cY).2=0:=by rw[ok.ok.cY]
 have bR:=wK tx;have bh:bQ av xJ [.agg n.cY.row] (fun v=>v=.tuple [tp n.cY,.int .i64 0]):=bQ.mono bh fun v h=>h.2 tx;refine bZ Sr (by simp[Ci]) ?_;simp only[Net.row,Query.row] at kq;simp-implicitDefEqProofs (disch:=omega) only[go_sem,Ci,Net.row,Query.row];first|refine b0 (kq) ?_|refine bV (kq) ?_
 generalize gF n q=x7 at*;simp only[bd.row] at bh;simp-implicitDefEqProofs (disch:=omega) only[go_sem,↓br 8,↓br 13,↓br 15,aj];obtain⟨cs,eN⟩:∃cs,tp n.cY=.cN cs:=⟨_,rfl⟩;rw[eN] at bh;first|refine b0 (bh) ?_|refine bV (bh) ?_
 simp-implicitDefEqProofs (disch:=omega) only[go_sem,↓br 20,↓br 22,↓br 24,↓br 26,eX];refine ew (Z2 n.cY) ?_;rintro v N ⟨rfl,B,rfl,gq⟩;simp-implicitDefEqProofs (disch:=omega) only[go_sem,eX];obtain⟨N,db⟩:∃N,N=[a2.box n.row,.box q.row,.box x7.row,.map [],iO x7 (plain q) 3 5 (.slice [] .nil),B]:=⟨_,rfl⟩;have aEj:cA x7 (plain q) n.cY 4 5 [] [] [] N:=by
  refine⟨⟨3,.slice [] .nil,[],by rw[db];rfl,.inl ⟨rfl,rfl⟩,⟨by rw[db];rfl,List.nodup_nil,fun _ h=>(mF h).elim,fun _ h=>(mF h).elim⟩⟩,gq.fJ (by rw[db];rfl) fun i R ver hi=>?_⟩;match i,hi with
  |0,hi=>cases hi
  |1,hi=>cases hi
  |2,hi=>cases hi
  |3,hi=>cases hi
  |4,hi=>cases hi
  |i+5,hi=>rw[db];rfl
 have xz:N[1]? =some (.box q.row):=by rw[db];rfl
 simp only[iO,plain,Net.row,Query.row,aj] at db;rw[<-db];clear db gq kq bh;have co:=aLk aEj aEq ff aK.cY bR dy k9 g.inv g.next g.dec g.start g.small;have tE:f7 n.cY []=.cN cs:=eN;rw[tE] at co;simp-implicitDefEqProofs (disch:=omega) only[go_sem,↓br 28];refine ew co ?_;rintro v dP ⟨rfl,cl,A,O,di,bk,lv,Hb,xu,aE7⟩;have tO:=cl _ _ xz (by decide) (by decide);obtain⟨m,o,E,bH,b8,dS⟩:=di.box;obtain⟨c,fH,a7,pP⟩:=b8.freeze;have zF:=pP _ _ tO;have q7:=aAe q O c aj (by omega);simp only[iO] at bH;simp only[Query.row] at tO zF q7;have tJ:z8 (.ptr 4 21) dP=some (.slice (O.map c7.row) c,fH):=by
  have U:hn 1 false (.ptr 4 21) dP=some o:=by simp only[hn,bH];rfl
  simp only[z8,U,a7]
 simp-implicitDefEqProofs (disch:=omega) only[go_sem,↓br 30,eX,tO,zF,tJ];first|refine b0 (q7) ?_|refine bV (q7) ?_
 simp-implicitDefEqProofs (disch:=omega) only[go_sem];exact⟨A,O,rfl,bk,lv,Hb,xu,aE7⟩
end Go.aQ.C
namespace Go.aQ.C
open Go.aQ
theorem aKs{n:Net}(ok:g2 n):∃d:Int->Nat,yK n.b9 d/\∀i:Nat,i<n.runs.length->d i<=6:=by
 obtain⟨d,aw⟩:=Fh n n.b9.length (cF _) fun k _=>ok.ok.b9.2 k;rw[g0] at aw;have dQ:=ok.runs;refine⟨fun x=>(c1 n.runs.length).countP fun(y:Nat)=>decide (d (y:Int)<d x),fun x y ka=>?_,fun i hi=>?_⟩
 . have U:=aw x y ka
   obtain⟨l,ag,ak,rfl,rfl⟩:=ka;obtain⟨k,ao⟩:=ij ag;obtain⟨h7,d1⟩:=(ok.ok.b9.2 k l ao).dst;refine Fe (a:=l.dst.toNat) _ (fun m _ hm=>?_) (jY.2 (by omega)) ?_ ?_
   . have:=of_decide_eq_true hm
     exact decide_eq_true (by omega)
   . rw[Int.toNat_of_nonneg h7];exact decide_eq_true U
   . rw[Int.toNat_of_nonneg h7];exact decide_eq_false (by omega)
 . have:=Fe (a:=i) (p:=fun y:Nat=>decide (d (y:Int)<d i)) (q:=fun _=>true) (c1 n.runs.length) (fun _ _ _=>rfl) (jY.2 hi) rfl (decide_eq_false (by omega))
   rw[List.countP_eq_length.2 (fun _ _=>rfl),List.length_range] at this;show List.countP _ _<=6;omega
structure Env(n:Net)(q:Query)(d:Int->Nat):Prop where
 ok:g2 n
 down:yK n.b9 d
 d6:∀i:Nat,i<n.runs.length->d i<=6
 time:0<=q.time/\q.time<=3155932800
 b1:0<=q.b1/\q.b1<=8
 walk:0<=q.walk/\q.walk<=86400
 src:0<=q.src/\q.src<n.stops.length
structure Yj(n:Net)(x:ca)(i b k:Nat)(r:bS)(B c:cd):Prop where
 run:x.run=i
 jb:x.jb=b
 gP:x.gP=k
 aNX:b<k
 al:n.runs[i]? =some r
 gone:r.gone=false
 bY:r.calls[b]? =some B
 ar:r.calls[k]? =some c
 src:x.src=B.stop
 dst:x.dst=c.stop
 cB:x.cB=B.cB
 c_:x.c_=c.c_
 on:x.stay=false->B.jb=true
def OU(n:Net)(x:ca):Prop:=x.cR=true->∃i b k r B c,Yj n x i b k r B c
def M7(n:Net)(x:ca):Bool:=match(kR n x.run.toNat)[x.gP.toNat]? with
 |some c=>c.gP
 |none=>false
def lC(aZ:List ca):Nat:=aZ.countP fun x=>x.cR&&!x.stay
def Ends(n:Net)(aZ:List ca):Prop:=∀x,aZ.getLast?=some x->x.cR=true->M7 n x=true
structure qG(n:Net)(aZ:List ca):Prop where
 tX:∀x∈aZ,yL x
 ok:∀x∈aZ,OU n x
 aJJ:∀k x y,aZ[k]? =some x->aZ[k+1]? =some y->x.cR=true->y.stay=false->M7 n x=true
theorem qG.snoc{n:Net}{aZ:List ca}(h:qG n aZ){y:ca}(aj:yL y)(aD:OU n y)(aK:y.stay=false->Ends n aZ):qG n (aZ++[y]):=by
 refine⟨fun x ab=>?_,fun x ab=>?_,fun k x z ab a7 al ak=>?_⟩
 . rcases g_.1 ab with ab|ab
   . exact h.tX x ab
   . rw[ht.1 ab];exact aj
 . rcases g_.1 ab with ab|ab
   . exact h.ok x ab
   . rw[ht.1 ab];exact aD
 . have iW:=(bn.1 a7).1
   rw[dT,List.length_singleton] at iW;rw[gh (by omega)] at ab;by_cases ao:k+1<aZ.length
   . rw[gh ao] at a7
     exact h.aJJ k x z ab a7 al ak
   . have he:k+1=aZ.length:=by omega
     rw[he,jX (cF _),mH] at a7;cases a7;exact aK ak x (by rw[List.getLast?_eq_getElem?,show aZ.length -1=k by omega];exact ab) al
structure wu(n:Net)(q:Query)(l:aI):Prop where
 stop:0<=l.place.stop/\l.place.stop<n.stops.length
 yA:∀r∈l.base,r.wf
 b1:0<=l.b1/\l.b1<=q.b1
 base:(l.base.length:Int)<=l.b1
 time:0<=l.time/\l.time<=3155932800
 walk:0<=l.walk/\l.walk<=86400
 aZ:qG n l.aZ
 ln:(lC l.aZ:Int)<=l.b1
 ends:Ends n l.aZ
 len:(l.aZ.length:Int)<=10*l.b1+1
structure Z6(n:Net)(d:Int->Nat)(l:aI)(i k:Nat)(r:bS)(c:cd)(x:ca):Prop where
 al:n.runs[i]? =some r
 ar:r.calls[k]? =some c
 run:l.place.run=i
 cM:l.place.cM=k
 stop:l.place.stop=c.stop
 time:l.time=c.c_
 cR:l.place.cR.wf
 base:(l.base.length:Int)+1<=l.b1
 len:(l.aZ.length:Int)+d i<=10*l.b1
 last:l.aZ.getLast?=some x
 xr:x.cR=true
 Ep:x.run=i
 Er:x.gP=k
structure j1(n:Net)(q:Query)(d:Int->Nat)(l:aI):Prop where
 kind:l.place.kind=0∨l.place.kind=1∨l.place.kind=2
 stop:0<=l.place.stop/\l.place.stop<n.stops.length
 yA:∀r∈l.base,r.wf
 b1:0<=l.b1/\l.b1<=q.b1
 base:(l.base.length:Int)<=l.b1
 time:0<=l.time/\l.time<=3155932800
 walk:0<=l.walk/\l.walk<=86400
 aZ:qG n l.aZ
 ln:(lC l.aZ:Int)<=l.b1
 off:l.place.kind≠1->Ends n l.aZ/\(l.aZ.length:Int)<=10*l.b1+1
 aJR:l.place.kind=0->l.aZ=[]
 rd:l.place.kind=1->∃i k r c x,Z6 n d l i k r c x
theorem j1.on{n:Net}{q:Query}{d:Int->Nat}{l:aI}(h:j1 n q d l)(ao:l.place.kind≠1):wu n q l:=
 ⟨h.stop,h.yA,h.b1,h.base,h.time,h.walk,h.aZ,h.ln,(h.off ao).1,(h.off ao).2⟩
theorem j1.ll{n:Net}{q:Query}{d:Int->Nat}{l:aI}(h:j1 n q d l)(ao:l.place.kind=1)(bk:yT n l=true):wu n q (ll l)/\((ll l).aZ.length:Int)<=10*l.b1:=by
 obtain⟨i,k,r,c,x,R⟩:=h.rd ao;have:=R.len;refine⟨⟨h.stop,fun y aD=>(jm.1 aD).elim (fun e=>e▸R.cR) (h.yA y),h.b1,?_,h.time,h.walk,h.aZ,h.ln,?_,?_⟩,?_⟩
 . have:=R.base
   show(((l.place.cR::l.base).length:Nat):Int)<=l.b1;simp only[dz];omega
 . intro y aD _
   have aHm:y=x:=by
    have:l.aZ.getLast?=some y:=aD;rw[R.last] at this;exact(Option.some.inj this).symm
   subst aHm;unfold M7;unfold yT at bk;rw[R.Ep,R.Er];rw[R.run,R.cM] at bk;exact bk
 . show(l.aZ.length:Int)<=10*l.b1+1;omega
 . show(l.aZ.length:Int)<=10*l.b1;omega
theorem aMb{n:Net}(ok:g2 n){z:Int}(h:0<=z/\z<n.stops.length):∃s,n.stops[z.toNat]? =some s/\0<=z/\r7 n z=s.change/\0<=s.change/\s.change<=3600:=by
 obtain⟨s,ak⟩:∃s,n.stops[z.toNat]? =some s:=⟨n.stops[z.toNat]'(by omega),by simp⟩;have ay:=ok.ok.stops.2 _ s ak;exact⟨s,ak,h.1,by simp only[r7,ak],ay.2.2.1.1,ay.2.2.1.2⟩
theorem j1.Uv{n:Net}{q:Query}{d:Int->Nat}{l:aI}(E:Env n q d)(h:j1 n q d l):qF l/\EG n l:=by
 have al:=E.b1;have U:=h.b1;have af:=h.base;refine⟨⟨⟨h.yA,by omega⟩,?_,U.1,by omega,h.aZ.tX,h.time,h.walk⟩,⟨aMb E.ok h.stop,fun ao=>?_⟩⟩
 . by_cases ao:l.place.kind=1
   . obtain⟨i,k,r,c,x,R⟩:=h.rd ao
     have:=R.len;omega
   . have:=(h.off ao).2;omega
 . obtain⟨i,k,r,c,x,R⟩:=h.rd ao
   have:=R.base;exact⟨by omega,R.cR,i,k,r,c,R.al,R.ar,R.run,R.cM,R.stop⟩
end Go.aQ.C
namespace Go.aQ.C
open Go.aQ
theorem a1.aNM{r:a1}(h:r.wf)(z:Int):(r.kh z).wf:=⟨h.1,h.2.1,D1 _ _,h.2.2.2⟩
theorem a1.aJk{r:a1}(h:r.wf)(z:Int):(r.mode z).wf:=⟨h.1,h.2.1,h.2.2.1,D1 _ _⟩
theorem a1.aa2{n:Net}{r:a1}(h:r.wf){c:cd}(ar:0<=c.c_/\c.c_<=3155932800):(r.at n c).wf:=by
 refine⟨h.1,?_,D1 _ _,h.2.2.2⟩;show el c.c_;unfold el;omega
theorem aK3{n:Net}{r:bS}{B:cd}{rd:a1}(h:rd.wf):(uj n r B rd).wf:=a1.aNM (a1.aJk h _) _
theorem E6{n:Net}(ok:g2 n){i k:Nat}{r:bS}{c:cd}(al:n.runs[i]? =some r)(ar:r.calls[k]? =some c):(0<=c.stop/\c.stop<n.stops.length)/\(0<=c.c_/\c.c_<=3155932800)/\0<=c.cB/\c.cB<=3155932800:=by
 have h:=(ok.ok.runs.2 i r al).2.2.2.2.2.1.2.2 k c ar;have af:=h.2.1;exact⟨h.1,by omega,by omega⟩
theorem WU{n:Net}(ok:g2 n){l:aI}{i b:Nat}{stay:Bool}{B:cd}{r:bS}(al:n.runs[i]? =some r):∀{cs:List cd}{k:Nat}{rd:a1},(∀(j:Nat)(c:cd),cs[j]? =some c->r.calls[k+j]? =some c)->rd.wf->
 ∀x∈nQ n l i b stay B cs k rd,∃m c ui,k<=m/\r.calls[m]? =some c/\ui.wf/\x=m9 l i b stay B c m ui
 |[],_,_,_,_,x,ab=>by cases ab
 |c::cs,k,rd,eN,hw,x,ab=>by
  have ar:=eN 0 c rfl;have gH:(rd.at n c).wf:=a1.aa2 hw (E6 ok al ar).2.1;rcases g_.1 ab with ab|ab
  . split at ab
    . exact⟨k,c,_,cF _,ar,gH,ht.1 ab⟩
    . cases ab
  . obtain⟨m,c0,ui,U,af⟩:=WU ok al (fun j c0 ap=>by
     have:=eN (j+1) c0 ap;rwa [show k+(j+1)=k+1+j by omega] at this) gH x ab
    exact⟨m,c0,ui,by omega,af⟩
theorem WR{n:Net}(ok:g2 n){l:aI}{i b:Nat}{stay:Bool}{B:cd}{r:bS}(al:n.runs[i]? =some r)(bY:r.calls[b]? =some B){rd:a1}(hw:rd.wf):∀x∈m_ n l i b stay rd,∃m c ui,b<m/\r.calls[m]? =some c/\ui.wf/\x=m9 l i b stay B c m ui:=by
 intro x ab;simp only[m_,al,bY] at ab;obtain⟨m,c,ui,U,af⟩:=WU ok al (k:=b+1) (fun j c ap=>by rwa [kL] at ap) (aK3 hw) x ab;exact⟨m,c,ui,by omega,af⟩
theorem U_(aZ:List ca)(x:ca):lC (aZ++[x])=lC aZ+if x.cR&&!x.stay then 1 else 0:=by
 simp only[lC,List.countP_append,List.countP_cons,List.countP_nil];omega
theorem WX{n:Net}{q:Query}{d:Int->Nat}(E:Env n q d){l:aI}{i b k:Nat}{stay:Bool}{r:bS}{B c:cd}{rd:a1}(al:n.runs[i]? =some r)(aB:r.gone=false)(bY:r.calls[b]? =some B)(ar:r.calls[k]? =some c)(aEv:b<k)(hw:rd.wf)(aGr:stay=false->B.jb=true)
 (Ue:∀x∈l.base,x.wf)(vq:l.b1<=q.b1)(hg:(l.base.length:Int)+1<=l.b1)(aHd:0<=l.walk/\l.walk<=86400)(ag:qG n l.aZ)(mj:(lC l.aZ:Int)+(if stay then 0 else 1)<=l.b1)(xh:stay=false->Ends n l.aZ)(hlen:(l.aZ.length:Int)+1+d i<=10*l.b1):
 j1 n q d (m9 l i b stay B c k rd):=by
 obtain⟨eS,gQ,_⟩:=E6 E.ok al ar;obtain⟨_,_,qU⟩:=E6 E.ok al bY;refine⟨.inr (.inl rfl),eS,Ue,⟨?_,vq⟩,?_,gQ,aHd,ag.snoc ⟨gQ,?_⟩ (fun _=>⟨i,b,k,r,B,c,rfl,rfl,rfl,aEv,al,aB,bY,ar,rfl,rfl,rfl,rfl,aGr⟩) xh,?_,fun h=>absurd rfl h,fun h=>?_,fun _=>⟨i,k,r,c,_,al,ar,rfl,rfl,rfl,rfl,hw,hg,?_,List.getLast?_concat,rfl,rfl,rfl⟩⟩
 . show 0<=l.b1;omega
 . show(l.base.length:Int)<=l.b1;omega
 . show-3155932800<=c.c_ -B.cB/\c.c_ -B.cB<=3155932800;omega
 . show((lC (l.aZ++[uk i b stay B c k]):Nat):Int)<=l.b1
   rw[U_];cases stay
   . simp only[uk] at mj⊢;simp at mj⊢;omega
   . simp only[uk] at mj⊢;simp at mj⊢;omega
 . exact absurd h (by show(1:Int)≠0;omega)
 . show(((l.aZ++[uk i b stay B c k]).length:Nat):Int)+d i<=10*l.b1
   rw[dT,List.length_singleton];omega
theorem aLI{n:Net}{l:aI}{x:ca}(ab:l.aZ=[x])(al:x.cR=false){t:Int}(h:qG n l.aZ)(aT:0<=t/\t<=3155932800):qG n [sQ x t]/\lC [sQ x t]=lC l.aZ/\Ends n [sQ x t]:=by
 have aj:=h.tX x (by rw[ab];exact ht.2 rfl);have xD:(sQ x t).cR=false:=al;refine⟨⟨fun y aD=>?_,fun y aD=>?_,fun k y z aD a7 _ _=>?_⟩,?_,fun y aD xG=>?_⟩
 . rw[ht.1 aD]
   refine⟨aT,?_⟩;show-3155932800<=t -(x.cB+(t -x.c_))/\t -(x.cB+(t -x.c_))<=3155932800;have:=aj.2;omega
 . rw[ht.1 aD]
   intro h;rw[xD] at h;cases h
 . rw[List.getElem?_cons_succ,List.getElem?_nil] at a7;cases a7
 . rw[ab]
   show List.countP _ _=List.countP _ _;simp only[List.countP_cons,List.countP_nil,al,xD,Bool.false_and]
 . cases aD
   have U:(sQ x t).cR=true:=xG;rw[xD] at U;cases U
theorem abB{n:Net}{q:Query}{d:Int->Nat}(E:Env n q d){l:aI}(h:wu n q l){i k:Nat}{r:bS}{c:cd}(al:n.runs[i]? =some r)(ar:r.calls[k]? =some c)(aB:r.gone=false)(aj:c.jb=true):∀x∈oQ n q l i k,j1 n q d x:=by
 intro x ab;unfold oQ at ab;split at ab
 . cases ab
 rename_i cr;simp only[kR,al,ar] at ab;obtain⟨_,_,t1,t2⟩:=E6 E.ok al ar;have rf:=(bn.1 al).1;have aOh:=E.d6 i rf;have U:=h.b1;have af:=h.base;have ay:=h.ln;have be:=h.len;have key:∀l':aI,l'.base=l.base->l'.b1=l.b1+1->l'.walk=l.walk->qG n l'.aZ->lC l'.aZ=lC l.aZ->Ends n l'.aZ->l'.aZ.length=l.aZ.length->x∈m_ n l' i k false ⟨c.cB,0,0,0⟩->j1 n q d x:=by
  intro l' a6 ba e3 lO mP y4 aA1 ab;have J0:el 0:=by unfold el;omega
  obtain⟨m,c0,rd,jA,k2,nH,rfl⟩:=WR E.ok al ar ⟨by show el c.cB;unfold el;omega,J0,J0,J0⟩ x ab;refine WX E al aB ar k2 jA nH (fun _=>aj) (by rw[a6];exact h.yA) (by rw[ba];omega) (by rw[a6,ba];omega) (by rw[e3];exact h.walk) lO ?_ (fun _=>y4) ?_
  . rw[mP,ba];simp;omega
  . rw[aA1,ba];omega
 unfold oY at ab;split at ab
 . rename_i y aD
   split at ab
   . rename_i xG
     obtain⟨s1,ds,vY⟩:=aLI aD xG h.aZ ⟨t1,t2⟩;exact key {l with b1:=l.b1+1,aZ:=[sQ y c.cB],tag:=.full} rfl rfl rfl s1 ds vY (by rw[aD];rfl) ab
   . exact key {l with b1:=l.b1+1} rfl rfl rfl h.aZ rfl h.ends rfl ab
 . exact key {l with b1:=l.b1+1} rfl rfl rfl h.aZ rfl h.ends rfl ab
theorem PY{n:Net}{q:Query}{d:Int->Nat}(E:Env n q d){l:aI}(h:wu n q l){t:Int}{i:Nat}{r:bS}(al:n.runs[i]? =some r):∀{cs:List cd}{k:Nat},(∀(j:Nat)(c:cd),cs[j]? =some c->r.calls[k+j]? =some c)->∀x∈qQ n q l t r i cs k,j1 n q d x
 |[],_,_,x,ab=>by cases ab
 |c::cs,k,eN,x,ab=>by
  rcases g_.1 ab with ab|ab
  . unfold yV at ab
    split at ab
    . rename_i G3
      simp only[wC,b_,lH] at G3;exact abB E h al (eN 0 c rfl) G3.1 G3.2.1 x ab
    . cases ab
  . exact PY E h al (fun j c0 ap=>by
     have:=eN (j+1) c0 ap;rwa [show k+(j+1)=k+1+j by omega] at this) x ab
theorem P0{n:Net}{q:Query}{d:Int->Nat}(E:Env n q d){l:aI}(h:wu n q l){t:Int}:∀{rs:List bS}{i:Nat},(∀(j:Nat)(r:bS),rs[j]? =some r->n.runs[i+j]? =some r)->∀x∈pJ n q l t rs i,j1 n q d x
 |[],_,_,x,ab=>by cases ab
 |r::rs,i,lW,x,ab=>by
  rcases g_.1 ab with ab|ab
  . exact PY E h (lW 0 r rfl) (fun j c ap=>by rwa [ev]) x ab
  . exact P0 E h (fun j gA ap=>by
     have:=lW (j+1) gA ap;rwa [show i+(j+1)=i+1+j by omega] at this) x ab
theorem KE{n:Net}{q:Query}{d:Int->Nat}(E:Env n q d){l:aI}(h:wu n q l)(t:Int):∀x∈lm n q l t,j1 n q d x:=P0 E h fun j r ap=>by rwa [ev]
theorem OA{n:Net}{q:Query}{d:Int->Nat}(E:Env n q d){l:aI}(h:wu n q l)(hlen:(l.aZ.length:Int)<=10*l.b1):∀{cP:List Path},(∀p∈cP,p∈n.paths)->∀x∈rR q l cP,j1 n q d x
 |[],_,x,ab=>by cases ab
 |p::cP,e2,x,ab=>by
  rcases g_.1 ab with ab|ab
  . unfold yy at ab
    split at ab
    . rename_i hw
      rw[ht.1 ab];simp only[yz,b_,lH,decide_eq_true_eq,decide_eq_false_iff_not] at hw;obtain⟨i,hi⟩:=ij (e2 p (List.mem_cons_self ..));obtain⟨⟨_,aw,ak⟩,_⟩:=E.ok.ok.sound i p hi;have U:=h.time;have af:=h.walk;have ay:=E.walk;have gT:qG n (l.aZ++[⟨false,0,0,0,l.place.stop,p.dst,l.time,l.time+p.dI,false⟩]):=h.aZ.snoc ⟨?_,?_⟩ (fun e=>by cases e) fun _=>h.ends
      . refine⟨.inr (.inr rfl),aw,h.yA,h.b1,h.base,?_,?_,gT,?_,fun _=>⟨?_,?_⟩,fun e=>absurd e (by show(2:Int)≠0;omega),fun e=>absurd e (by show(2:Int)≠1;omega)⟩
        . show 0<=l.time+p.dI/\l.time+p.dI<=3155932800;omega
        . show 0<=l.walk+p.dI/\l.walk+p.dI<=86400;omega
        . show((lC (l.aZ++[_]):Nat):Int)<=l.b1
          rw[U_];have:=h.ln;simpa using this
        . intro y aD xG
          have aD:(l.aZ++[(⟨false,0,0,0,l.place.stop,p.dst,l.time,l.time+p.dI,false⟩:ca)]).getLast?=some y:=aD;rw[List.getLast?_concat] at aD;cases aD;cases xG
        . show(((l.aZ++[_]).length:Nat):Int)<=10*l.b1+1
          rw[dT,List.length_singleton];omega
      . show 0<=l.time+p.dI/\l.time+p.dI<=3155932800;omega
      . show-3155932800<=l.time+p.dI -l.time/\l.time+p.dI -l.time<=3155932800;omega
    . cases ab
  . exact OA E h hlen (fun p ax=>e2 p (oG _ ax)) x ab
theorem Wo{n:Net}{q:Query}{d:Int->Nat}(E:Env n q d){l:aI}(h:j1 n q d l)(ao:l.place.kind=1):∀{xs:List dA},(∀p∈xs,p∈n.b9)->∀x∈sS n l xs,j1 n q d x
 |[],_,x,ab=>by cases ab
 |p::cP,e2,x,ab=>by
  rcases g_.1 ab with ab|ab
  . unfold yn at ab
    split at ab
    . rename_i bh
      simp only[oz,b_,decide_eq_true_eq] at bh;obtain⟨s1,ds,vY,kH⟩:=bh;obtain⟨i,k,r,c,y,R⟩:=h.rd ao;have lV:=e2 p (List.mem_cons_self ..);obtain⟨j,ap⟩:=ij lV;obtain⟨h7,d1⟩:=(E.ok.ok.b9.2 j p ap).dst;have gR:=E.down p.src p.dst ⟨p,lV,s1,rfl,rfl⟩;rw[ds,R.run] at gR;unfold GS at kH;split at kH
      . rename_i gA jO
        split at kH
        . rename_i c0 q6
          simp only[b_,lH] at kH;obtain⟨m,aNZ,rd,jA,k2,nH,rfl⟩:=WR E.ok jO q6 R.cR x ab;have U:=R.len;refine WX E jO kH.1 q6 k2 jA nH (fun e=>by cases e) h.yA h.b1.2 R.base h.walk h.aZ ?_ (fun e=>by cases e) ?_
          . have:=h.ln;simpa using this
          . rw[Int.toNat_of_nonneg h7];omega
        . cases kH
      . cases kH
    . cases ab
  . exact Wo E h ao (fun p ax=>e2 p (oG _ ax)) x ab
theorem aJD{n:Net}{q:Query}{d:Int->Nat}(E:Env n q d){l:aI}(h:j1 n q d l):∀x∈mz n q l,j1 n q d x:=by
 intro x ab;unfold mz at ab;split at ab
 . rename_i ao
   rcases g_.1 ab with ab|ab
   . exact Wo E h ao (fun _ h=>h) x ab
   . unfold ud at ab
     split at ab
     . rename_i bk
       obtain⟨U,af⟩:=h.ll ao bk;rcases g_.1 ab with ab|ab
       . exact KE E U _ x ab
       . exact OA E U af (fun _ h=>h) x ab
     . cases ab
 . rename_i ao
   split at ab
   . exact KE E (h.on ao) _ x ab
   . rename_i lT
     have a4:=h.kind;have ag:l.aZ=[]:=h.aJR (by omega);rcases g_.1 ab with ab|ab
     . exact KE E (h.on ao) _ x ab
     . refine OA E (h.on ao) ?_ (fun _ h=>h) x ab
       have:=h.b1;rw[ag,gZ];omega
theorem aL5{n:Net}{q:Query}{d:Int->Nat}(E:Env n q d):j1 n q d (oy q):=by
 have U:=E.b1;refine⟨.inl rfl,E.src,fun _ h=>(mF h).elim,⟨Int.le_refl 0,U.1⟩,Int.le_refl 0,E.time,⟨Int.le_refl 0,by show(0:Int)<=86400;omega⟩,⟨fun _ h=>(mF h).elim,fun _ h=>(mF h).elim,fun k x y h=>?_⟩,Int.le_refl 0,fun _=>⟨fun x h=>?_,?_⟩,fun _=>rfl,fun h=>absurd h ?_⟩
 . cases h
 . cases h
 . show(0:Int)<=10*0+1;omega
 . show(0:Int)≠1;omega
end Go.aQ.C
namespace Go.aQ.C
open Go.aQ
def mc:Nat->Nat
 |0=>10
 |r+1=>10+84*(35*(1+mc r))
def nW:Nat->Nat
 |0=>0
 |r+1=>35*(1+mc r)
theorem ZQ:∀r,mc r=10+84*nW r
 |0=>rfl
 |_+1=>rfl
def hG(q:Query)(l:aI):Nat:=(q.b1 -l.b1).toNat
def lj(rs:List bS):List Int:=rs.flatMap fun r=>r.calls.map (·.stop)
def iI(n:Net)(q:Query)(d:Int->Nat)(l:aI):Nat:=
 if l.place.kind=1 then(1+mc (hG q l))*(1+if l.place.cM+1=((kR n l.place.run.toNat).length:Int) then 5*d l.place.run else 0)
 else if l.place.kind=2 then 1+nW (hG q l)*(lj n.runs).count l.place.stop
 else 1+mc (hG q l)
theorem WV{n:Net}{q:Query}{d:Int->Nat}{l:aI}{i b:Nat}{stay:Bool}{B:cd}{len:Nat}(hlen:(kR n i).length=len):∀{cs:List cd}{k:Nat}{rd:a1},k+cs.length=len->
 dE (iI n q d) (nQ n l i b stay B cs k rd)<=(1+mc (hG q l))*(cs.length+if cs.isEmpty then 0 else 5*d i)
 |[],_,_,_=>fG _
 |c::cs,k,rd,ao=>by
  rw[dz] at ao;have bq:=WV (q:=q) (d:=d) (l:=l) (b:=b) (stay:=stay) (B:=B) hlen (cs:=cs) (k:=k+1) (rd:=rd.at n c) (by omega);have hw:iI n q d (m9 l i b stay B c k (rd.at n c))=(1+mc (hG q l))*(1+if(k:Int)+1=len then 5*d i else 0):=by
   rw[<-hlen];simp only[iI,m9,hG,if_true];rfl
  have hle:dE (iI n q d) (if c.gP||v4 n i k then[m9 l i b stay B c k (rd.at n c)] else[])<=(1+mc (hG q l))*(1+if(k:Int)+1=len then 5*d i else 0):=by
   split
   . simp only[dE,hw,iJ];exact cF _
   . exact fG _
  show dE _ (_++_)<=_;rw[up];refine jH (Nat.add_le_add hle bq) ?_;rw[<-Nat.mul_add];refine Nat.mul_le_mul_left _ ?_;simp only[dz,List.isEmpty_cons,i_,if_false];cases cs with
  |nil=>simp only[gZ,List.isEmpty_nil,if_true];split<;>omega
  |cons c0 aAv=>
   simp only[dz] at ao⊢;rw[if_neg (by omega)];simp only[List.isEmpty_cons,i_,if_false];omega
theorem WS{n:Net}{q:Query}{d:Int->Nat}{l:aI}{i b:Nat}{stay:Bool}{rd:a1}{r:bS}{B:cd}(al:n.runs[i]? =some r)(bY:r.calls[b]? =some B):
 dE (iI n q d) (m_ n l i b stay rd)<=(1+mc (hG q l))*(r.calls.length -1+5*d i):=by
 have aj:=(bn.1 bY).1;simp only[m_,al,bY];refine jH (WV (n:=n) (q:=q) (d:=d) (len:=r.calls.length) (by simp only[kR,al]) (by rw[List.length_drop];omega)) (Nat.mul_le_mul_left _ ?_);rw[List.length_drop];split<;>omega
theorem aBU(l:aI)(t:Int):(oY l t).b1=l.b1+1:=by
 unfold oY;split
 . split<;>rfl
 . rfl
theorem abA{n:Net}{q:Query}{d:Int->Nat}(E:Env n q d){l:aI}(ag:l.b1<=q.b1){i k:Nat}{r:bS}{c:cd}(al:n.runs[i]? =some r)(ar:r.calls[k]? =some c):dE (iI n q d) (oQ n q l i k)<=nW (hG q l):=by
 unfold oQ;split
 . exact fG _
 . rename_i cr
   simp only[kR,al,ar];refine jH (WS (q:=q) (d:=d) al ar) ?_;have b7:=E.d6 i (bn.1 al).1;have aEC:=E.ok.calls r (dO al);obtain⟨m,hm⟩:∃m,hG q l=m+1:=⟨hG q l -1,by unfold hG;omega⟩;have p2:hG q (oY l c.cB)=m:=by unfold hG at hm⊢;rw[aBU];omega
   rw[hm,p2];show _<=35*(1+mc m);rw[Nat.mul_comm 35];exact Nat.mul_le_mul_left _ (by omega)
theorem PZ{n:Net}{q:Query}{d:Int->Nat}(E:Env n q d){l:aI}(ag:l.b1<=q.b1){t:Int}{i:Nat}{r:bS}(al:n.runs[i]? =some r):∀{cs:List cd}{k:Nat},(∀(j:Nat)(c:cd),cs[j]? =some c->r.calls[k+j]? =some c)->
 dE (iI n q d) (qQ n q l t r i cs k)<=nW (hG q l)*(cs.map (·.stop)).count l.place.stop
 |[],_,_=>fG _
 |c::cs,k,eN=>by
  have bq:=PZ E ag (t:=t) al (cs:=cs) (k:=k+1) fun j c0 ap=>by
   have:=eN (j+1) c0 ap;rwa [show k+(j+1)=k+1+j by omega] at this
  show dE _ (_++_)<=_;rw[up,hQ,List.count_cons];have U:dE (iI n q d) (yV n q l t r i k c)<=nW (hG q l)*if(c.stop==l.place.stop)=true then 1 else 0:=by
   unfold yV;split
   . rename_i aj
     simp only[wC,b_,decide_eq_true_eq] at aj;rw[if_pos (by simp[aj.2.2.1]),kN];exact abA E ag al (eN 0 c rfl)
   . exact fG _
  rw[Nat.mul_add];omega
theorem P1{n:Net}{q:Query}{d:Int->Nat}(E:Env n q d){l:aI}(ag:l.b1<=q.b1){t:Int}:∀{rs:List bS}{i:Nat},(∀(j:Nat)(r:bS),rs[j]? =some r->n.runs[i+j]? =some r)->
 dE (iI n q d) (pJ n q l t rs i)<=nW (hG q l)*(lj rs).count l.place.stop
 |[],_,_=>fG _
 |r::rs,i,lW=>by
  have bq:=P1 E ag (t:=t) (rs:=rs) (i:=i+1) fun j gA ap=>by
   have:=lW (j+1) gA ap;rwa [show i+(j+1)=i+1+j by omega] at this
  have U:=PZ E ag (t:=t) (lW 0 r rfl) (cs:=r.calls) (k:=0) fun j c ap=>by rwa [ev]
  show dE _ (_++_)<=_;rw[up,show lj (r::rs)=r.calls.map (·.stop)++lj rs from List.flatMap_cons,List.count_append,Nat.mul_add];rw[iJ] at U;omega
theorem PW{n:Net}{q:Query}{d:Int->Nat}(E:Env n q d){l:aI}(ag:l.b1<=q.b1)(t:Int):dE (iI n q d) (lm n q l t)<=nW (hG q l)*(lj n.runs).count l.place.stop:=
 P1 E ag fun j r ap=>by rwa [ev]
theorem KT{K:List Int}{m:Nat}(h:∀t,K.count t<=m):∀L:List Int,dE (fun t=>L.count t) K<=m*L.length
 |[]=>by
  have:∀K:List Int,dE (fun t=>([]:List Int).count t) K=0:=fun K=>by induction K with|nil=>rfl|cons _ _ bq=>simpa[dE] using bq
  rw[this];exact fG _
 |x::L=>by
  have bq:=KT h L;have af:∀K:List Int,dE (fun t=>(x::L).count t) K=dE (fun t=>L.count t) K+K.count x:=fun K=>by
   induction K with
   |nil=>rfl
   |cons t K bq=>
    show(x::L).count t+dE _ K=(L.count t+dE _ K)+_;rw[bq,List.count_cons,List.count_cons];by_cases aT:x=t
    . subst aT;simp;omega
    . have ay:(x==t)=false:=by simpa using aT
      have be:(t==x)=false:=by simpa using fun e:t=x=>aT e.symm
      simp[ay,be];omega
  have:=h x;rw[af,dz,Nat.mul_add];omega
theorem aaQ{rs:List bS}(dQ:rs.length<=7)(b7:∀r∈rs,r.calls.length<=6):(lj rs).length<=42:=by
 have:∀rs:List bS,(∀r∈rs,r.calls.length<=6)->(lj rs).length<=6*rs.length:=fun rs=>by
  induction rs with
  |nil=>intro _;exact cF _
  |cons r rs bq=>
   intro h;have U:=h r (List.mem_cons_self ..);have af:=bq fun x ab=>h x (oG _ ab);rw[show lj (r::rs)=r.calls.map (·.stop)++lj rs from List.flatMap_cons,dT,eD,dz];omega
 have:=this rs b7;omega
def l7(cP:List Path)(s:Int):List Int:=(cP.filter fun p=>decide (p.src=s)).map (·.dst)
end Go.aQ.C
namespace Go.aQ.C
open Go.aQ
theorem Wz{α:Type}{f g:α->Nat}:∀{l:List α},(∀x∈l,f x<=g x)->dE f l<=dE g l
 |[],_=>cF _
 |x::l,h=>by
  have:=Wz (l:=l) fun y aD=>h y (oG _ aD);have:=h x (List.mem_cons_self ..);simp only[dE];omega
theorem WA{α:Type}(f:α->Nat)(c:Nat):∀{l:List α},(∀x∈l,f x=0)∨(∃i:Nat,∀(k:Nat)(x:α),l[k]? =some x->k≠i->f x=0)->(∀x∈l,f x<=c)->dE f l<=c
 |[],_,_=>fG _
 |x::l,h,ar=>by
  have zero:∀{m:List α},(∀y∈m,f y=0)->dE f m=0:=fun{m} hm=>by
   have:=Wz (f:=f) (g:=fun _=>0) (l:=m) fun y aD=>by rw[hm y aD];exact cF _
   have z:∀m:List α,dE (fun _=>0) m=0:=fun m=>by induction m with|nil=>rfl|cons _ _ bq=>simpa[dE] using bq
   rw[z m] at this;omega
  rcases h with h|⟨i,h⟩
  . rw[zero h];exact fG _
  . cases i with
    |zero=>
     have:dE f l=0:=zero fun y aD=>by
      obtain⟨k,ao⟩:=ij aD;exact h (k+1) y (by simpa using ao) (by omega)
     simp only[dE,this];exact ar x (List.mem_cons_self ..)
    |succ i=>
     have a4:f x=0:=h 0 x rfl (by omega);have:=WA f c (l:=l) (.inr ⟨i,fun k y ao cr=>h (k+1) y (by simpa using ao) (by omega)⟩) fun y aD=>ar y (oG _ aD);simp only[dE,a4];omega
theorem abC:∀l:List Bool,l.Nodup->l.length<=2
 |[],_=>by simp
 |[_],_=>by simp
 |[_,_],_=>by simp
 |a::b::c::l,h=>by
  simp only[List.nodup_cons,jm,not_or] at h;obtain⟨⟨U,af,_⟩,⟨ay,_⟩,_⟩:=h;cases a<;>cases b<;>cases c<;>first|exact absurd rfl U|exact absurd rfl af|exact absurd rfl ay
theorem Xg{cP:List Path}{N:Nat}(ak:qL cP N)(s t:Int):(l7 cP s).count t<=2:=by
 have ax:=((N6 cP N).1 ak).2;have e:(l7 cP s).count t=((cP.filter fun p=>decide (p.src=s)&&decide (p.dst=t)).map (·.free)).length:=by
  rw[l7,List.count_eq_countP,List.countP_map,List.countP_eq_length_filter,List.filter_filter,eD]
  congr 1
  refine List.filter_congr fun p _=>?_;simp only[Function.comp];rw[Bool.and_comm];rfl
 rw[e];refine abC _ ?_;rw[List.Nodup,List.pairwise_map];have af:((cP.filter fun p=>decide (p.src=s)&&decide (p.dst=t))).Pairwise fun o p=>¬V_ o p:=ax.filter _;refine List.Pairwise.imp_of_mem ?_ af;intro a b bk aj zk he;have ay:=(oH.1 bk).2;have be:=(oH.1 aj).2;simp only[b_,decide_eq_true_eq] at ay be;exact zk ⟨ay.1.trans be.1.symm,ay.2.trans be.2.symm,he⟩
theorem Xh{cP:List Path}{s t:Int}(h:t∈l7 cP s):∃p∈cP,p.src=s/\p.dst=t:=by
 obtain⟨p,ax,rfl⟩:=ld.1 h;obtain⟨U,af⟩:=oH.1 ax;exact⟨p,U,of_decide_eq_true af,rfl⟩
theorem Xf{n:Net}{q:Query}{d:Int->Nat}{l:aI}:∀cP:List Path,dE (iI n q d) (rR q l cP)<=dE (fun t=>1+nW (hG q l)*(lj n.runs).count t) (l7 cP l.place.stop)
 |[]=>cF _
 |p::cP=>by
  have bq:=Xf (n:=n) (q:=q) (d:=d) (l:=l) cP;show dE _ (_++_)<=_;rw[up];by_cases ax:p.src=l.place.stop
  . have e:l7 (p::cP) l.place.stop=p.dst::l7 cP l.place.stop:=by simp[l7,ax]
    rw[e];have U:dE (iI n q d) (yy q l p)<=1+nW (hG q l)*(lj n.runs).count p.dst:=by
     unfold yy;split
     . have:iI n q d (AD l p)=1+nW (hG q l)*(lj n.runs).count p.dst:=rfl
       simp only[dE,this,iJ];exact cF _
     . exact fG _
    exact Nat.add_le_add U bq
  . have e:l7 (p::cP) l.place.stop=l7 cP l.place.stop:=by simp[l7,ax]
    have ba:yy q l p=[]:=by
     unfold yy yz;rw[decide_eq_false ax];rfl
    rw[e,ba];show 0+_<=_;omega
theorem WB{α:Type}(b:Nat)(f:α->Nat):∀K:List α,dE (fun t=>1+b*f t) K=K.length+b*dE f K
 |[]=>rfl
 |x::K=>by simp only[dE,WB b f K,dz,Nat.mul_add];omega
theorem Vg{n:Net}{q:Query}{d:Int->Nat}(E:Env n q d){l:aI}(ag:l.b1<=q.b1)(t:Int):dE (iI n q d) (m6 n q l t)<=mc (hG q l):=by
 have U:=PW E ag t;have af:=Xf (n:=n) (q:=q) (d:=d) (l:=l) n.paths;rw[WB] at af;have ak:=E.ok.ok.sound;have ey:=((N6 _ _).1 ak).1;have aN8:=aaQ E.ok.runs E.ok.calls;have ay:=KT (K:=l.place.stop::l7 n.paths l.place.stop) (m:=2) (fun x=>by
  rw[List.count_cons];by_cases ab:l.place.stop=x
  . have a4:(l7 n.paths l.place.stop).count x=0:=List.count_eq_zero.2 fun hm=>by
     obtain⟨p,ax,a6,ba⟩:=Xh hm;exact(ey p ax).2 (a6.trans (ab.trans ba.symm))
    rw[a4];split<;>omega
  . rw[if_neg (by simpa using ab)]
    have:=Xg ak l.place.stop x;omega) (lj n.runs);have be:(l7 n.paths l.place.stop).length<=10:=by
  have bv:=KT (K:=l7 n.paths l.place.stop) (m:=2) (fun x=>Xg ak _ x) [0,1,2,3,4];refine jH (JK (f:=fun t=>([0,1,2,3,4]:List Int).count t) fun x ab=>?_) bv;obtain⟨p,ax,_,rfl⟩:=Xh ab;obtain⟨⟨_,⟨h7,d1⟩,_⟩,_⟩:=ey p ax;have:=E.ok.stops;rcases(show p.dst=0∨p.dst=1∨p.dst=2∨p.dst=3∨p.dst=4 by omega) with e|e|e|e|e<;>rw[e]<;>decide
 rw[show dE (fun t=>(lj n.runs).count t) (l.place.stop::l7 n.paths l.place.stop)=(lj n.runs).count l.place.stop+dE (fun t=>(lj n.runs).count t) (l7 n.paths l.place.stop) from rfl] at ay;unfold m6;rw[up,ZQ];show dE _ (lm n q l t)+dE _ (rR q l n.paths)<=_;have b7:nW (hG q l)*(lj n.runs).count l.place.stop+nW (hG q l)*dE (fun t=>(lj n.runs).count t) (l7 n.paths l.place.stop)<=84*nW (hG q l):=by
  rw[<-Nat.mul_add,Nat.mul_comm 84];exact Nat.mul_le_mul_left _ (by omega)
 omega
theorem Wp(n:Net)(l:aI)(w:aI->Nat):∀xs:List dA,dE w (sS n l xs)=dE (fun x=>dE w (yn n l x)) xs
 |[]=>rfl
 |x::xs=>by
  show dE _ (_++_)=_;rw[up,Wp n l w xs];rfl
theorem aL7{n:Net}{q:Query}{d:Int->Nat}(E:Env n q d){l:aI}(h:j1 n q d l)(ao:l.place.kind=1):
 dE (iI n q d) (sR n l)<=(1+mc (hG q l))*(if l.place.cM+1=((kR n l.place.run.toNat).length:Int) then 5*d l.place.run else 0):=by
 obtain⟨i,k,r,c,y,R⟩:=h.rd ao;have a7:∀x,oz n l x=false->dE (iI n q d) (yn n l x)=0:=fun x ab=>by
  unfold yn;rw[ab];rfl
 unfold sR;rw[Wp];refine WA _ _ ?_ fun x ab=>?_
 . by_cases d9:∀x∈n.b9,oz n l x=false
   . exact .inl fun x ab=>a7 x (d9 x ab)
   . obtain⟨x,ab,ak⟩:∃x∈n.b9,oz n l x=true:=Classical.byContradiction fun aK=>d9 fun x ab=>by
      cases aj:oz n l x with
      |false=>rfl
      |true=>exact absurd ⟨x,ab,aj⟩ aK
     obtain⟨j,ap⟩:=ij ab;refine .inr ⟨j,fun m z hm cr=>a7 z ?_⟩;cases aj:oz n l z with
     |false=>rfl
     |true=>
      exfalso;simp only[oz,b_,decide_eq_true_eq] at ak aj;have e:x.src=z.src:=ak.2.1.trans aj.2.1.symm;rcases Nat.lt_or_gt_of_ne cr with bw|bw
      . exact((E.ok.ok.b9.2 j x ap).uniq ak.1 m z bw hm aj.1).1 e.symm
      . exact((E.ok.ok.b9.2 m z hm).uniq aj.1 j x bw ap ak.1).1 e
 . cases aj:oz n l x with
   |false=>rw[a7 x aj];exact fG _
   |true=>
    obtain⟨j,ap⟩:=ij ab;have vf:=E.ok.ok.b9.2 j x ap;have mh:=aj;simp only[oz,b_,decide_eq_true_eq] at mh;obtain⟨s1,ds,vY,kH⟩:=mh;obtain⟨h7,d1⟩:=vf.dst;have gR:=E.down x.src x.dst ⟨x,ab,s1,rfl,rfl⟩;unfold GS at kH;split at kH
    . rename_i gA jO
      split at kH
      . rename_i c0 q6
        have xD:n.runs[x.src.toNat]? =some r:=by rw[ds,R.run];exact R.al
        obtain⟨a6,_⟩:=(vf.calls r gA xD jO).2.2.2 s1;have sk:kR n l.place.run.toNat=r.calls:=by rw[R.run];simp only[kR,lI,R.al]
        rw[if_pos (by rw[sk];omega)];unfold yn;rw[aj,if_pos rfl];refine jH (WS (q:=q) (d:=d) jO q6) (Nat.mul_le_mul_left _ ?_);have aEC:=E.ok.calls gA (dO jO);rw[Int.toNat_of_nonneg h7,<-ds];omega
      . cases kH
    . cases kH
theorem aJE{n:Net}{q:Query}{d:Int->Nat}(E:Env n q d){l:aI}(h:j1 n q d l):dE (iI n q d) (mz n q l)+1<=iI n q d l:=by
 have al:=h.b1.2;unfold mz;split
 . rename_i ao
   have U:=aL7 E h ao;have af:dE (iI n q d) (ud n q l)<=mc (hG q l):=by
    unfold ud;split
    . exact Vg E (l:=ll l) al _
    . exact fG _
   unfold wW;rw[up];have e:iI n q d l=(1+mc (hG q l))+(1+mc (hG q l))*(if l.place.cM+1=((kR n l.place.run.toNat).length:Int) then 5*d l.place.run else 0):=by
    unfold iI;rw[if_pos ao,Nat.mul_add,kN]
   rw[e];omega
 . rename_i ao
   split
   . rename_i lT
     have U:=PW (d:=d) E al l.time;have e:iI n q d l=1+nW (hG q l)*(lj n.runs).count l.place.stop:=by unfold iI;rw[if_neg ao,if_pos lT]
     rw[e];omega
   . rename_i lT
     have U:=Vg (d:=d) E al (m8 n q l);have e:iI n q d l=1+mc (hG q l):=by unfold iI;rw[if_neg ao,if_neg lT]
     rw[e];omega
theorem aDK{n:Net}{q:Query}{d:Int->Nat}(E:Env n q d)(ay:q.b1<=3):OQ n q (j1 n q d) (iI n q d):=by
 refine⟨fun l h=>h.Uv E,fun l h=>aJD E h,fun l h=>aJE E h,aL5 E,?_⟩;have e:iI n q d (oy q)=1+mc (q.b1 -0).toNat:=rfl;have a4:=E.b1.1;rw[e];rcases(show q.b1=0∨q.b1=1∨q.b1=2∨q.b1=3 by omega) with e|e|e|e<;>rw[e]<;>decide
end Go.aQ.C
