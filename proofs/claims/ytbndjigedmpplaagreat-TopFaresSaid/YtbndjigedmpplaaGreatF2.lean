/- A part of the proof of TopFares: the abstract machine, the code that the statement reaches, the contracts of its functions. Part 2. The text is made short by a program. -/
import Derived.Test.YtbndjigedmpplaaGreatF1
set_option linter.unusedSimpArgs false
set_option linter.unusedVariables false
set_option linter.unusedSectionVars false
set_option maxHeartbeats 1000000
set_option maxRecDepth 10000
open BitVec renaming ofInt->iv
open Bool renaming and_eq_true->b_,and_self->eR,false_eq_true->i_,not_eq_true'->lH
open List renaming getElem?_cons_zero->ja,getElem?_eq_some_iff->bn,getElem?_of_mem->ij,getElem?_take_of_lt->hs,length_take->iw,mem_append->g_,mem_cons->jm,mem_cons_of_mem->oG,mem_of_getElem?->dO,mem_range->jY,mem_singleton->ht,range->c1,take_add_one->hR,take_length->g0
open Nat renaming beq->ep,eq_of_beq_eq_true->oI,lt_or_ge->mG,lt_succ_iff_lt_or_eq->jn,not_lt_zero->fb
namespace Go.aQ
class Yb where
 v:V
 s:aH
class EC where
 s:aH
 k:aH->Mem->Prop
class Kb where
 H:List (Nat×(Mem->Prop))
 s:aH
 k:aH->Mem->Prop
def N1(b:Bool)(u:Nat)[h:Yb]:V:=bif b then h.v else aY h.s u
theorem aLH(t:Nat)(v:V)(s:aH)(u:Nat):aY ((t,v)::s) u=@N1 (t==u) u ⟨v,s⟩:=rfl
theorem aLG(u:Nat)(v:V)(s:aH):@N1 true u ⟨v,s⟩=v:=rfl
theorem aLF(u:Nat)(v:V)(s:aH):@N1 false u ⟨v,s⟩=aY s u:=rfl
theorem aL3(s:aH)(u:Nat)(x:V):eK s u x=(u,x)::s:=rfl
theorem aL2(s:aH)(u:Nat)(x:V):bA s (some u) x=(u,x)::s:=rfl
theorem aL1(s:aH)(x:V):bA s none x=s:=rfl
theorem aLZ(s:aH):gW s []=[]:=rfl
theorem aLY(s:aH)(t:Nat)(d5:List Nat):gW s (t::d5)=(t,aY s t)::gW s d5:=rfl
theorem aBt(s:aH)(t:Nat):aN s (.tmp t)=aY s t:=rfl
theorem aBs(s:aH)(v:V):aN s (.const v)=v:=rfl
theorem aBp(s:aH)(x:aU):eH s (some x)=some (aN s x):=rfl
theorem aBo(s:aH):eH s none=none:=rfl
theorem aBm(s:aH):e9 s []=[]:=rfl
theorem aBl(s:aH)(x:aU)(xs:List aU):e9 s (x::xs)=aN s x::e9 s xs:=rfl
theorem aBr(s:aH):j8 s []=[]:=rfl
theorem aBq(s:aH)(a b:Nat)(x:aU)(xs:List (Nat×Nat×aU)):j8 s ((a,b,x)::xs)=(a,b,aN s x)::j8 s xs:=rfl
def J4(v:V)[A:wo][B:wo]:Prop:=A3 v A.p B.p
theorem XS(t:Bool)(A B:Prop):@J4 (.bool t) ⟨A⟩ ⟨B⟩=@qy t ⟨A⟩ ⟨B⟩:=rfl
theorem aNo(P:Program)(c:aU)(a b:bc)(Q:Exit->aH->Mem->Prop)(s:aH)(M:Mem):dv P (.cond c a b) Q s M=@J4 (aN s c) ⟨dv P a Q s M⟩ ⟨dv P b Q s M⟩:=by
 simp only[dv,J4,A3]<;>cases aN s c<;>rfl
def dc(P:Program)(q:Bool)(dst:Option Nat)(op:dK)(bx:Bool)(M:Mem)[h:EC]:Prop:=wpOp P q op dst bx h.s M h.k
def wm(P:Program)(q:Bool)(g:Nat)(w:Bool)(dst:Option Nat)(op:dK)(bx:Bool)(v:V)(M:Mem)[h:EC]:Prop:=
 match v with
 |.bool b=>
  match w with
  |true=>jZ b (wpOp P q op dst bx (eK h.s g (.bool true)) M h.k) (h.k (bA (eK h.s g (.bool false)) dst (.tuple [])) M)
  |false=>jZ b (h.k (bA (eK h.s g (.bool true)) dst (.tuple [])) M) (wpOp P q op dst bx (eK h.s g (.bool false)) M h.k)
 |.tuple []=>h.k (bA h.s dst (.tuple [])) M
 |_=>False
theorem X9(P:Program)(q:Bool)(g:Nat)(dst:Option Nat)(op:dK)(bx b:Bool)(M:Mem)(s:aH)(k:aH->Mem->Prop):@wm P q g true dst op bx (.bool b) M ⟨s,k⟩=@qy b ⟨@dc P q dst op bx M ⟨(g,.bool true)::s,k⟩⟩ ⟨k (bA ((g,.bool false)::s) dst (.tuple [])) M⟩:=rfl
theorem X7(P:Program)(q:Bool)(g:Nat)(dst:Option Nat)(op:dK)(bx b:Bool)(M:Mem)(s:aH)(k:aH->Mem->Prop):@wm P q g false dst op bx (.bool b) M ⟨s,k⟩=@qy b ⟨k (bA ((g,.bool true)::s) dst (.tuple [])) M⟩ ⟨@dc P q dst op bx M ⟨(g,.bool false)::s,k⟩⟩:=rfl
theorem X8(P:Program)(q:Bool)(g:Nat)(w:Bool)(dst:Option Nat)(op:dK)(bx:Bool)(M:Mem)(s:aH)(k:aH->Mem->Prop):@wm P q g w dst op bx (.tuple []) M ⟨s,k⟩=k (bA s dst (.tuple [])) M:=rfl
def nh(P:Program)(aF:List bt)(M:Mem)[h:EC]:Prop:=wpOps P false aF h.s M h.k
def wt(P:Program)(aF:List bt)(dN:List Bool)(M:Mem)[h:EC]:Prop:=uw P aF dN h.s M h.k
def wj(P:Program)(aF:List bt)(bJ:List (Option (List Nat)))(n:Nat)(M:Mem)[h:Kb]:Prop:=l8 P aF bJ n h.H h.s M h.k
theorem aKS(P:Program)(aF:List bt)(live:List Nat)(Q:Exit->aH->Mem->Prop)(s:aH)(M:Mem):dv P (.region aF live) Q s M=@nh P aF M ⟨s,fun aM ah=>Q .normal (gW aM live) ah⟩:=rfl
theorem aJh(P:Program)(aF:List bt)(dN:List Bool)(live:List Nat)(Q:Exit->aH->Mem->Prop)(s:aH)(M:Mem):dv P (.mixed aF dN live) Q s M=@wt P aF dN M ⟨s,fun aM ah=>Q .normal (gW aM live) ah⟩:=rfl
theorem aB9(P:Program)(aF:List bt)(bJ:List (Option (List Nat)))(live:List Nat)(Q:Exit->aH->Mem->Prop)(s:aH)(M:Mem):dv P (.float aF bJ live) Q s M=@wj P aF bJ 0 M ⟨[],s,fun aM ah=>Q .normal (gW aM live) ah⟩:=rfl
theorem ZJ(P:Program)(M:Mem)(s:aH)(k:aH->Mem->Prop):@nh P [] M ⟨s,k⟩=k s M:=rfl
theorem ZK(P:Program)(dst:Option Nat)(op:dK)(bx:Bool)(os:List bt)(M:Mem)(s:aH)(k:aH->Mem->Prop):@nh P (⟨dst,op,bx,none⟩::os) M ⟨s,k⟩=@dc P false dst op bx M ⟨s,fun aM ah=>@nh P os ah ⟨aM,k⟩⟩:=rfl
theorem ZI(P:Program)(dst:Option Nat)(op:dK)(bx:Bool)(g:Nat)(w:Bool)(os:List bt)(M:Mem)(s:aH)(k:aH->Mem->Prop):@nh P (⟨dst,op,bx,some (g,w)⟩::os) M ⟨s,k⟩=@wm P false g w dst op bx (aY s g) M ⟨s,fun aM ah=>@nh P os ah ⟨aM,k⟩⟩:=by
 simp only[nh,wpOps,wm]<;>cases aY s g<;>first|rfl|(cases w<;>rfl)
theorem Yn(P:Program)(dN:List Bool)(M:Mem)(s:aH)(k:aH->Mem->Prop):@wt P [] dN M ⟨s,k⟩=k s M:=rfl
theorem Yo(P:Program)(dst:Option Nat)(op:dK)(bx:Bool)(os:List bt)(q:Bool)(dN:List Bool)(M:Mem)(s:aH)(k:aH->Mem->Prop):@wt P (⟨dst,op,bx,none⟩::os) (q::dN) M ⟨s,k⟩=@dc P q dst op bx M ⟨s,fun aM ah=>@wt P os dN ah ⟨aM,k⟩⟩:=rfl
theorem Ym(P:Program)(dst:Option Nat)(op:dK)(bx:Bool)(g:Nat)(w:Bool)(os:List bt)(q:Bool)(dN:List Bool)(M:Mem)(s:aH)(k:aH->Mem->Prop):@wt P (⟨dst,op,bx,some (g,w)⟩::os) (q::dN) M ⟨s,k⟩=@wm P q g w dst op bx (aY s g) M ⟨s,fun aM ah=>@wt P os dN ah ⟨aM,k⟩⟩:=by
 simp only[wt,uw,hr,wm]<;>cases aY s g<;>first|rfl|(cases w<;>rfl)
theorem X0(P:Program)(bJ:List (Option (List Nat)))(n:Nat)(M:Mem)(H:List (Nat×(Mem->Prop)))(s:aH)(k:aH->Mem->Prop):@wj P [] bJ n M ⟨H,s,k⟩=k s M:=rfl
theorem X1(P:Program)(dst:Option Nat)(op:dK)(bx:Bool)(os:List bt)(bO:List (Option (List Nat)))(n:Nat)(M:Mem)(H:List (Nat×(Mem->Prop)))(s:aH)(k:aH->Mem->Prop):@wj P (⟨dst,op,bx,none⟩::os) (none::bO) n M ⟨H,s,k⟩=
 @dc P true dst op bx M ⟨s,fun aM ah=>@wj P os bO (n+1) ah ⟨(n,gk P ⟨dst,op,bx,none⟩ s (pM aM dst))::H,aM,k⟩⟩:=rfl
theorem X2(P:Program)(dst:Option Nat)(op:dK)(bx:Bool)(os:List bt)(l:List Nat)(bO:List (Option (List Nat)))(n:Nat)(M:Mem)(H:List (Nat×(Mem->Prop)))(s:aH)(k:aH->Mem->Prop):@wj P (⟨dst,op,bx,none⟩::os) (some l::bO) n M ⟨H,s,k⟩=
 @dc P false dst op bx M ⟨s,fun aM ah=>kE H l ah/\@wj P os bO (n+1) ah ⟨H,aM,k⟩⟩:=rfl
def wr(P:Program)(z:List V)(n c:Nat)(aF:List bt)(bJ:List (Option (List Nat)))(q:Nat)(M:Mem)[h:Kb]:Prop:=nT P z n c aF bJ q h.H h.s M h.k
def Ke(b:Bool)(P:Program)(z:List V)(n c:Nat)(o:bt)(os:List bt)(l:List Nat)(bO:List (Option (List Nat)))(q:Nat)(M:Mem)[h:Kb]:Prop:=match b with
 |true=>kE h.H l (M.set n (.box z))/\l8 P os bO (q+1) h.H (bA h.s o.dst (.ptr n 0)) (M.set n (.box z)) h.k
 |false=>
  match o.op with
  |.call f args=>J3 P f (e9 h.s args) M n (.box z) (fun v ah=>kC h.s o.dst o.bx v (fun aM=>kE h.H l ah/\nT P z n c os bO (q+1) h.H aM ah h.k))
  |_=>False
theorem Yh(P:Program)(z:List V)(n c:Nat)(dst:Option Nat)(op:dK)(bx:Bool)(os:List bt)(bO:List (Option (List Nat)))(q:Nat)(M:Mem)(H:List (Nat×(Mem->Prop)))(s:aH)(k:aH->Mem->Prop):@wr P z n c (⟨dst,op,bx,none⟩::os) (none::bO) q M ⟨H,s,k⟩=
 @dc P true dst op bx M ⟨s,fun aM ah=>@wr P z n c os bO (q+1) ah ⟨(q,gk P ⟨dst,op,bx,none⟩ s (pM aM dst))::H,aM,k⟩⟩:=rfl
theorem Yi(P:Program)(z:List V)(n c:Nat)(o:bt)(os:List bt)(l:List Nat)(bO:List (Option (List Nat)))(q:Nat)(M:Mem)(H:List (Nat×(Mem->Prop)))(s:aH)(k:aH->Mem->Prop):@wr P z n c (o::os) (some l::bO) q M ⟨H,s,k⟩=@Ke (q==c) P z n c o os l bO q M ⟨H,s,k⟩:=by
 cases h:(q==c) with
 |true=>
  have af:ep q c=true:=by rw[eq_of_beq h];exact Nat.beq_refl c
  simp only[wr,nT,af];rfl
 |false=>
  have af:ep q c=false:=by
   cases aj:ep q c with
   |false=>rfl
   |true=>rw[oI aj,beq_self_eq_true] at h;cases h
  simp only[wr,nT,af];rfl
theorem Yg(P:Program)(z:List V)(n c:Nat)(o:bt)(os:List bt)(l:List Nat)(bO:List (Option (List Nat)))(q:Nat)(M:Mem)(H:List (Nat×(Mem->Prop)))(s:aH)(k:aH->Mem->Prop):@Ke true P z n c o os l bO q M ⟨H,s,k⟩=(kE H l (M.set n (.box z))/\@wj P os bO (q+1) (M.set n (.box z)) ⟨H,bA s o.dst (.ptr n 0),k⟩):=rfl
theorem Yf(P:Program)(z:List V)(n c:Nat)(d:Option Nat)(f:Nat)(args:List aU)(g:Option (Nat×Bool))(os:List bt)(l:List Nat)(bO:List (Option (List Nat)))(q:Nat)(M:Mem)(H:List (Nat×(Mem->Prop)))(s:aH)(k:aH->Mem->Prop):@Ke false P z n c ⟨d,.call f args,false,g⟩ os l bO q M ⟨H,s,k⟩=
 @OL P f (e9 s args) M n z ⟨fun v ah=>kE H l ah/\@wr P z n c os bO (q+1) ah ⟨H,bA s d v,k⟩⟩:=rfl
theorem aKD(H:List (Nat×(Mem->Prop)))(M:Mem):kE H [] M=True:=rfl
theorem aKC(H:List (Nat×(Mem->Prop)))(j:Nat)(z6:List Nat)(M:Mem):kE H (j::z6) M=(nG H j M/\kE H z6 M):=rfl
class Yc where
 p:Mem->Prop
 H:List (Nat×(Mem->Prop))
def M_(b:Bool)(j:Nat)(M:Mem)[h:Yc]:Prop:=match b with
 |true=>h.p M
 |false=>nG h.H j M
theorem aIF(i:Nat)(p:Mem->Prop)(H:List (Nat×(Mem->Prop)))(j:Nat)(M:Mem):nG ((i,p)::H) j M=@M_ (i==j) j M ⟨p,H⟩:=by
 show(match ep i j with|true=>p M|false=>nG H j M)=_;cases h:ep i j with
 |true=>
  have:(i==j)=true:=by rw[oI h];exact beq_self_eq_true j
  rw[this];rfl
 |false=>
  have:(i==j)=false:=beq_false_of_ne (Nat.ne_of_beq_eq_false h);rw[this];rfl
theorem aIE(j:Nat)(M:Mem)(p:Mem->Prop)(H:List (Nat×(Mem->Prop))):@M_ true j M ⟨p,H⟩=p M:=rfl
theorem aID(j:Nat)(M:Mem)(p:Mem->Prop)(H:List (Nat×(Mem->Prop))):@M_ false j M ⟨p,H⟩=nG H j M:=rfl
theorem aAP(s:aH)(d:Nat):pM s (some d)=aY s d:=rfl
section
variable(P:Program)(q:Bool)(d:Option Nat)(M:Mem)(s:aH)(k:aH->Mem->Prop)
theorem YE(f:Nat)(l:List aU):@dc P false d (.call f l) false M ⟨s,k⟩=@qz P f (e9 s l) M ⟨fun v ah=>k (bA s d v) ah⟩:=rfl
theorem YF(f:Nat)(l:List aU):@dc P false d (.call f l) true M ⟨s,k⟩=@qz P f (e9 s l) M ⟨fun v ah=>@hT (some v) ⟨fun b=>k (bA s d (.bool b)) ah⟩⟩:=rfl
theorem YG(f:Nat)(l:List aU):@dc P true d (.call f l) false M ⟨s,k⟩=@yG P f (e9 s l) M ⟨fun v ah=>k (bA s d v) ah⟩:=rfl
theorem YH(f:Nat)(l:List aU):@dc P true d (.call f l) true M ⟨s,k⟩=@yG P f (e9 s l) M ⟨fun v ah=>@hT (some v) ⟨fun b=>k (bA s d (.bool b)) ah⟩⟩:=rfl
theorem YI(x:aU)(l:List aU):@dc P q d (.hd x l) false M ⟨s,k⟩=@yH P q (aN s x) (e9 s l) M ⟨fun v ah=>k (bA s d v) ah⟩:=rfl
theorem YJ(x:aU)(l:List aU):@dc P q d (.hd x l) true M ⟨s,k⟩=@yH P q (aN s x) (e9 s l) M ⟨fun v ah=>@hT (some v) ⟨fun b=>k (bA s d (.bool b)) ah⟩⟩:=rfl
theorem Zt(x:aU)(b:Bool):@dc P q d (.rz x) b M ⟨s,k⟩=@OZ (aN s x) M ⟨fun v ah=>k (bA s d v) ah⟩:=rfl
theorem Zw(n b:Bool)(x y:aU):@dc P q d (.oq n x y) b M ⟨s,k⟩=@Kh n (aN s x) (aN s y) M ⟨fun v ah=>k (bA s d v) ah⟩:=rfl
theorem Zp(x:aU):@dc P q d (.nJ x) false M ⟨s,k⟩=@it (some (aN s x)) ⟨fun v=>k (bA s d v) M⟩:=rfl
theorem Zq(x:aU):@dc P q d (.nJ x) true M ⟨s,k⟩=@hT (some (aN s x)) ⟨fun b=>k (bA s d (.bool b)) M⟩:=rfl
theorem Zx(c:aU)(a:aU)(b:aU):@dc P q d (.pick c a b) false M ⟨s,k⟩=@it (vS (aN s c) (aN s a) (aN s b)) ⟨fun v=>k (bA s d v) M⟩:=rfl
theorem Zy(c:aU)(a:aU)(b:aU):@dc P q d (.pick c a b) true M ⟨s,k⟩=@hT (vS (aN s c) (aN s a) (aN s b)) ⟨fun b=>k (bA s d (.bool b)) M⟩:=rfl
theorem Yx(zero:List V)(d3:List (Nat×Nat×aU)):@dc P q d (.build zero d3) false M ⟨s,k⟩=@it (wE zero (j8 s d3)) ⟨fun v=>k (bA s d v) M⟩:=rfl
theorem Yy(zero:List V)(d3:List (Nat×Nat×aU)):@dc P q d (.build zero d3) true M ⟨s,k⟩=@hT (wE zero (j8 s d3)) ⟨fun b=>k (bA s d (.bool b)) M⟩:=rfl
theorem Yz(zero:List V)(sz:Nat)(len:Nat)(d3:List (Nat×Nat×aU)):@dc P q d (.buildSlice zero sz len d3) false M ⟨s,k⟩=@it (wD zero sz len (j8 s d3)) ⟨fun v=>k (bA s d v) M⟩:=rfl
theorem YA(zero:List V)(sz:Nat)(len:Nat)(d3:List (Nat×Nat×aU)):@dc P q d (.buildSlice zero sz len d3) true M ⟨s,k⟩=@hT (wD zero sz len (j8 s d3)) ⟨fun b=>k (bA s d (.bool b)) M⟩:=rfl
theorem Zb(n:Nat)(bX:Bool)(a:aU):@dc P q d (.load n bX a) false M ⟨s,k⟩=@it (hn n bX (aN s a) M) ⟨fun v=>k (bA s d v) M⟩:=rfl
theorem Zc(n:Nat)(bX:Bool)(a:aU):@dc P q d (.load n bX a) true M ⟨s,k⟩=@hT (hn n bX (aN s a) M) ⟨fun b=>k (bA s d (.bool b)) M⟩:=rfl
theorem Zu(x:aU):@dc P q d (.nilCheck x) false M ⟨s,k⟩=@it (m4 (aN s x)) ⟨fun v=>k (bA s d v) M⟩:=rfl
theorem Zv(x:aU):@dc P q d (.nilCheck x) true M ⟨s,k⟩=@hT (m4 (aN s x)) ⟨fun b=>k (bA s d (.bool b)) M⟩:=rfl
theorem Yu(op:BinOp)(kn:iK)(x:aU)(y:aU):@dc P q d (.bin op kn x y) false M ⟨s,k⟩=@it (dB op kn (aN s x) (aN s y)) ⟨fun v=>k (bA s d v) M⟩:=rfl
theorem Yv(op:BinOp)(kn:iK)(x:aU)(y:aU):@dc P q d (.bin op kn x y) true M ⟨s,k⟩=@hT (dB op kn (aN s x) (aN s y)) ⟨fun b=>k (bA s d (.bool b)) M⟩:=rfl
theorem ZG(op:UnOp)(x:aU):@dc P q d (.un op x) false M ⟨s,k⟩=@it (v9 op (aN s x)) ⟨fun v=>k (bA s d v) M⟩:=rfl
theorem ZH(op:UnOp)(x:aU):@dc P q d (.un op x) true M ⟨s,k⟩=@hT (v9 op (aN s x)) ⟨fun b=>k (bA s d (.bool b)) M⟩:=rfl
theorem YK(jS:IntKind)(x:aU):@dc P q d (.conv jS x) false M ⟨s,k⟩=@it (uP jS (aN s x)) ⟨fun v=>k (bA s d v) M⟩:=rfl
theorem YL(jS:IntKind)(x:aU):@dc P q d (.conv jS x) true M ⟨s,k⟩=@hT (uP jS (aN s x)) ⟨fun b=>k (bA s d (.bool b)) M⟩:=rfl
theorem YM(x:aU):@dc P q d (.td x) false M ⟨s,k⟩=@it (y0 (aN s x)) ⟨fun v=>k (bA s d v) M⟩:=rfl
theorem YN(x:aU):@dc P q d (.td x) true M ⟨s,k⟩=@hT (y0 (aN s x)) ⟨fun b=>k (bA s d (.bool b)) M⟩:=rfl
theorem YC(x:aU):@dc P q d (.qT x) false M ⟨s,k⟩=@it (r6 (aN s x) M) ⟨fun v=>k (bA s d v) M⟩:=rfl
theorem YD(x:aU):@dc P q d (.qT x) true M ⟨s,k⟩=@hT (r6 (aN s x) M) ⟨fun b=>k (bA s d (.bool b)) M⟩:=rfl
theorem Zn(f:Nat)(da:List aU):@dc P q d (.my f da) false M ⟨s,k⟩=@it (some (x6 f (e9 s da))) ⟨fun v=>k (bA s d v) M⟩:=rfl
theorem Zo(f:Nat)(da:List aU):@dc P q d (.my f da) true M ⟨s,k⟩=@hT (some (x6 f (e9 s da))) ⟨fun b=>k (bA s d (.bool b)) M⟩:=rfl
theorem ZA(sz:Nat)(x:aU)(lo:Option aU)(hi:Option aU)(mx:Option aU):@dc P q d (.slice sz x lo hi mx) false M ⟨s,k⟩=@it (g7 sz (aN s x) (eH s lo) (eH s hi) (eH s mx) M) ⟨fun v=>k (bA s d v) M⟩:=rfl
theorem ZB(sz:Nat)(x:aU)(lo:Option aU)(hi:Option aU)(mx:Option aU):@dc P q d (.slice sz x lo hi mx) true M ⟨s,k⟩=@hT (g7 sz (aN s x) (eH s lo) (eH s hi) (eH s mx) M) ⟨fun b=>k (bA s d (.bool b)) M⟩:=rfl
theorem ZD(x:aU)(lo:Option aU)(hi:Option aU):@dc P q d (.ur x lo hi) false M ⟨s,k⟩=@it (Aw (aN s x) (eH s lo) (eH s hi)) ⟨fun v=>k (bA s d v) M⟩:=rfl
theorem ZE(x:aU)(lo:Option aU)(hi:Option aU):@dc P q d (.ur x lo hi) true M ⟨s,k⟩=@hT (Aw (aN s x) (eH s lo) (eH s hi)) ⟨fun b=>k (bA s d (.bool b)) M⟩:=rfl
theorem YU(off:Nat)(x:aU):@dc P q d (.fieldAddr off x) false M ⟨s,k⟩=@it (kz off (aN s x)) ⟨fun v=>k (bA s d v) M⟩:=rfl
theorem YV(off:Nat)(x:aU):@dc P q d (.fieldAddr off x) true M ⟨s,k⟩=@hT (kz off (aN s x)) ⟨fun b=>k (bA s d (.bool b)) M⟩:=rfl
theorem YT(off:Nat)(n:Nat)(bX:Bool)(x:aU):@dc P q d (.field off n bX x) false M ⟨s,k⟩=@it (wZ off n bX (aN s x)) ⟨fun v=>k (bA s d v) M⟩:=rfl
theorem YW(off:Nat)(n:Nat)(bX:Bool)(x:aU):@dc P q d (.field off n bX x) true M ⟨s,k⟩=@hT (wZ off n bX (aN s x)) ⟨fun b=>k (bA s d (.bool b)) M⟩:=rfl
theorem YZ(len:Nat)(sz:Nat)(x:aU)(i:aU):@dc P q d (.f_ len sz x i) false M ⟨s,k⟩=@it (pm len sz (aN s x) (aN s i)) ⟨fun v=>k (bA s d v) M⟩:=rfl
theorem Y0(len:Nat)(sz:Nat)(x:aU)(i:aU):@dc P q d (.f_ len sz x i) true M ⟨s,k⟩=@hT (pm len sz (aN s x) (aN s i)) ⟨fun b=>k (bA s d (.bool b)) M⟩:=rfl
theorem Y1(sz:Nat)(x:aU)(i:aU):@dc P q d (.mr sz x i) false M ⟨s,k⟩=@it (jj sz (aN s x) (aN s i) M) ⟨fun v=>k (bA s d v) M⟩:=rfl
theorem Y2(sz:Nat)(x:aU)(i:aU):@dc P q d (.mr sz x i) true M ⟨s,k⟩=@hT (jj sz (aN s x) (aN s i) M) ⟨fun b=>k (bA s d (.bool b)) M⟩:=rfl
theorem Y3(x:aU)(i:aU):@dc P q d (.pn x i) false M ⟨s,k⟩=@it (vG (aN s x) (aN s i)) ⟨fun v=>k (bA s d v) M⟩:=rfl
theorem Y4(x:aU)(i:aU):@dc P q d (.pn x i) true M ⟨s,k⟩=@hT (vG (aN s x) (aN s i)) ⟨fun b=>k (bA s d (.bool b)) M⟩:=rfl
theorem YX(len:Nat)(sz:Nat)(bX:Bool)(x:aU)(i:aU):@dc P q d (.tV len sz bX x i) false M ⟨s,k⟩=@it (z5 len sz bX (aN s x) (aN s i)) ⟨fun v=>k (bA s d v) M⟩:=rfl
theorem YY(len:Nat)(sz:Nat)(bX:Bool)(x:aU)(i:aU):@dc P q d (.tV len sz bX x i) true M ⟨s,k⟩=@hT (z5 len sz bX (aN s x) (aN s i)) ⟨fun b=>k (bA s d (.bool b)) M⟩:=rfl
theorem Y8(x:aU):@dc P q d (.sy x) false M ⟨s,k⟩=@it (i0 (aN s x) M) ⟨fun v=>k (bA s d v) M⟩:=rfl
theorem Y9(x:aU):@dc P q d (.sy x) true M ⟨s,k⟩=@hT (i0 (aN s x) M) ⟨fun b=>k (bA s d (.bool b)) M⟩:=rfl
theorem Y_(x:aU):@dc P q d (.nE x) false M ⟨s,k⟩=@it (xV (aN s x)) ⟨fun v=>k (bA s d v) M⟩:=rfl
theorem Za(x:aU):@dc P q d (.nE x) true M ⟨s,k⟩=@hT (xV (aN s x)) ⟨fun b=>k (bA s d (.bool b)) M⟩:=rfl
theorem Y5(n:Nat):@dc P q d (.tZ n) false M ⟨s,k⟩=@it (some (.int .i64 n)) ⟨fun v=>k (bA s d v) M⟩:=rfl
theorem Y6(n:Nat):@dc P q d (.tZ n) true M ⟨s,k⟩=@hT (some (.int .i64 n)) ⟨fun b=>k (bA s d (.bool b)) M⟩:=rfl
theorem Zl(mx:Bool)(x:aU)(y:aU):@dc P q d (.nI mx x y) false M ⟨s,k⟩=@it (sA mx (aN s x) (aN s y)) ⟨fun v=>k (bA s d v) M⟩:=rfl
theorem Zm(mx:Bool)(x:aU)(y:aU):@dc P q d (.nI mx x y) true M ⟨s,k⟩=@hT (sA mx (aN s x) (aN s y)) ⟨fun b=>k (bA s d (.bool b)) M⟩:=rfl
theorem YR(x:aU)(i:Nat):@dc P q d (.extract x i) false M ⟨s,k⟩=@it (wX (aN s x) i) ⟨fun v=>k (bA s d v) M⟩:=rfl
theorem YS(x:aU)(i:Nat):@dc P q d (.extract x i) true M ⟨s,k⟩=@hT (wX (aN s x) i) ⟨fun b=>k (bA s d (.bool b)) M⟩:=rfl
theorem Ze(c:fl)(zero:List V)(bX:Bool)(ok:Bool)(m:aU)(jS:aU):@dc P q d (.lookup c zero bX ok m jS) false M ⟨s,k⟩=@it (oh c zero bX ok (aN s m) (aN s jS) M) ⟨fun v=>k (bA s d v) M⟩:=rfl
theorem Zf(c:fl)(zero:List V)(bX:Bool)(ok:Bool)(m:aU)(jS:aU):@dc P q d (.lookup c zero bX ok m jS) true M ⟨s,k⟩=@hT (oh c zero bX ok (aN s m) (aN s jS) M) ⟨fun b=>k (bA s d (.bool b)) M⟩:=rfl
theorem Zs(bx:Bool)(sz:Nat):@dc P q d (.pr sz) bx M ⟨s,k⟩=@ki (Ah sz M) ⟨fun v ah=>k (bA s d v) ah⟩:=rfl
theorem Ys(bx:Bool)(zero:List V):@dc P q d (.alloc zero) bx M ⟨s,k⟩=@ki (ER zero M) ⟨fun v ah=>k (bA s d v) ah⟩:=rfl
theorem Yw(bx:Bool)(n:Nat)(x:aU):@dc P q d (.box n x) bx M ⟨s,k⟩=@ki (A0 n (aN s x) M) ⟨fun v ah=>k (bA s d v) ah⟩:=rfl
theorem ZF(bx:Bool)(n:Nat)(a:aU)(x:aU):@dc P q d (.store n a x) bx M ⟨s,k⟩=@ki (JH n (aN s a) (aN s x) M) ⟨fun v ah=>k (bA s d v) ah⟩:=rfl
theorem Zh(bx:Bool)(zero:List V)(sz:Nat)(bytes:Nat)(l:aU)(c:aU):@dc P q d (.makeSlice zero sz bytes l c) bx M ⟨s,k⟩=@ki (m1 zero sz bytes (aN s l) (aN s c) M) ⟨fun v ah=>k (bA s d v) ah⟩:=rfl
theorem YB(bx:Bool)(zero:List V)(len:Nat)(d3:List (Nat×Nat×aU)):@dc P q d (.qS zero len d3) bx M ⟨s,k⟩=@ki (wF zero len (j8 s d3) M) ⟨fun v ah=>k (bA s d v) ah⟩:=rfl
theorem Zi(bx:Bool)(zero:V)(bytes:Nat)(l:aU)(c:aU):@dc P q d (.vN zero bytes l c) bx M ⟨s,k⟩=@ki (Jb zero bytes (aN s l) (aN s c) M) ⟨fun v ah=>k (bA s d v) ah⟩:=rfl
theorem Yt(bx:Bool)(imm:Bool)(sz:Nat)(bytes:Nat)(a:aU)(x:aU):@dc P q d (.append imm sz bytes a x) bx M ⟨s,k⟩=@ki (d0 imm sz bytes (aN s a) (aN s x) M) ⟨fun v ah=>k (bA s d v) ah⟩:=rfl
theorem Zg(bx:Bool)(r:Option aU):@dc P q d (.makeMap r) bx M ⟨s,k⟩=@ki (x2 (eH s r) M) ⟨fun v ah=>k (bA s d v) ah⟩:=rfl
theorem Zk(bx:Bool)(c:fl)(m:aU)(jS:aU)(x:aU):@dc P q d (.mapUpdate c m jS x) bx M ⟨s,k⟩=@ki (Ab c (aN s m) (aN s jS) (aN s x) M) ⟨fun v ah=>k (bA s d v) ah⟩:=rfl
theorem Zj(bx:Bool)(c:fl)(z:V)(m:aU)(jS:aU):@dc P q d (.mapEntry c z m jS) bx M ⟨s,k⟩=@ki (t6 c z (aN s m) (aN s jS) M) ⟨fun v ah=>k (bA s d v) ah⟩:=rfl
theorem YQ(bx:Bool)(m:aU)(st:aU)(x:aU):@dc P q d (.entryStore m st x) bx M ⟨s,k⟩=@ki (wO (aN s m) (aN s st) (aN s x) M) ⟨fun v ah=>k (bA s d v) ah⟩:=rfl
theorem YO(bx:Bool)(sz:Nat)(QX:aU)(x:aU):@dc P q d (.copy sz QX x) bx M ⟨s,k⟩=@ki (uQ sz (aN s QX) (aN s x) M) ⟨fun v ah=>k (bA s d v) ah⟩:=rfl
theorem Zd(bx:Bool)(x:aU):@dc P q d (.ua x) bx M ⟨s,k⟩=@ki (z8 (aN s x) M) ⟨fun v ah=>k (bA s d v) ah⟩:=rfl
theorem Zr(bx:Bool)(x:aU):@dc P q d (.ry x) bx M ⟨s,k⟩=@ki (oj (aN s x) M) ⟨fun v ah=>k (bA s d v) ah⟩:=rfl
theorem ZC(bx:Bool)(sz:Nat)(x:aU)(h:aU)(m:aU):@dc P q d (.uq sz x h m) bx M ⟨s,k⟩=@ki (yj sz (aN s x) (aN s h) (aN s m) M) ⟨fun v ah=>k (bA s d v) ah⟩:=rfl
theorem Zz(bx:Bool)(x:aU):@dc P q d (.uh x) bx M ⟨s,k⟩=@ki (Eb (aN s x) M) ⟨fun v ah=>k (bA s d v) ah⟩:=rfl
theorem YP(bx:Bool)(x:aU):@dc P q d (.tf x) bx M ⟨s,k⟩=@ki (y5 (aN s x) M) ⟨fun v ah=>k (bA s d v) ah⟩:=rfl
theorem Y7(bx:Bool)(x:aU):@dc P q d (.t_ x) bx M ⟨s,k⟩=@ki (DR (aN s x) M) ⟨fun v ah=>k (bA s d v) ah⟩:=rfl
end
section
variable(P:Program)(d:Option Nat)(b:Bool)(g:Option (Nat×Bool))(s:aH)(v:V)(M:Mem)
theorem aaq(f:Nat)(l:List aU):gk P ⟨d,.call f l,b,g⟩ s v M=OJ P f (e9 s l) b v M:=rfl
theorem aaH(x:aU):gk P ⟨d,.nJ x,b,g⟩ s v M=(some (aN s x)=some v):=rfl
theorem aaJ(c:aU)(a:aU)(Kx:aU):gk P ⟨d,.pick c a Kx,b,g⟩ s v M=(vS (aN s c) (aN s a) (aN s Kx)=some v):=rfl
theorem aan(zero:List V)(d3:List (Nat×Nat×aU)):gk P ⟨d,.build zero d3,b,g⟩ s v M=(wE zero (j8 s d3)=some v):=rfl
theorem aao(zero:List V)(sz:Nat)(len:Nat)(d3:List (Nat×Nat×aU)):gk P ⟨d,.buildSlice zero sz len d3,b,g⟩ s v M=(wD zero sz len (j8 s d3)=some v):=rfl
theorem aaD(n:Nat)(bX:Bool)(a:aU):gk P ⟨d,.load n bX a,b,g⟩ s v M=(hn n bX (aN s a) M=some v):=rfl
theorem aaI(x:aU):gk P ⟨d,.nilCheck x,b,g⟩ s v M=(m4 (aN s x)=some v):=rfl
theorem aam(op:BinOp)(kn:iK)(x:aU)(y:aU):gk P ⟨d,.bin op kn x y,b,g⟩ s v M=(dB op kn (aN s x) (aN s y)=some v):=rfl
theorem aaM(op:UnOp)(x:aU):gk P ⟨d,.un op x,b,g⟩ s v M=(v9 op (aN s x)=some v):=rfl
theorem aar(jS:IntKind)(x:aU):gk P ⟨d,.conv jS x,b,g⟩ s v M=(uP jS (aN s x)=some v):=rfl
theorem aas(x:aU):gk P ⟨d,.td x,b,g⟩ s v M=(y0 (aN s x)=some v):=rfl
theorem aap(x:aU):gk P ⟨d,.qT x,b,g⟩ s v M=(r6 (aN s x) M=some v):=rfl
theorem aaG(f:Nat)(da:List aU):gk P ⟨d,.my f da,b,g⟩ s v M=(some (x6 f (e9 s da))=some v):=rfl
theorem aaK(sz:Nat)(x:aU)(lo:Option aU)(hi:Option aU)(mx:Option aU):gk P ⟨d,.slice sz x lo hi mx,b,g⟩ s v M=(g7 sz (aN s x) (eH s lo) (eH s hi) (eH s mx) M=some v):=rfl
theorem aaL(x:aU)(lo:Option aU)(hi:Option aU):gk P ⟨d,.ur x lo hi,b,g⟩ s v M=(Aw (aN s x) (eH s lo) (eH s hi)=some v):=rfl
theorem aav(off:Nat)(x:aU):gk P ⟨d,.fieldAddr off x,b,g⟩ s v M=(kz off (aN s x)=some v):=rfl
theorem aau(off:Nat)(n:Nat)(bX:Bool)(x:aU):gk P ⟨d,.field off n bX x,b,g⟩ s v M=(wZ off n bX (aN s x)=some v):=rfl
theorem aax(len:Nat)(sz:Nat)(x:aU)(i:aU):gk P ⟨d,.f_ len sz x i,b,g⟩ s v M=(pm len sz (aN s x) (aN s i)=some v):=rfl
theorem aay(sz:Nat)(x:aU)(i:aU):gk P ⟨d,.mr sz x i,b,g⟩ s v M=(jj sz (aN s x) (aN s i) M=some v):=rfl
theorem aaz(x:aU)(i:aU):gk P ⟨d,.pn x i,b,g⟩ s v M=(vG (aN s x) (aN s i)=some v):=rfl
theorem aaw(len:Nat)(sz:Nat)(bX:Bool)(x:aU)(i:aU):gk P ⟨d,.tV len sz bX x i,b,g⟩ s v M=(z5 len sz bX (aN s x) (aN s i)=some v):=rfl
theorem aaB(x:aU):gk P ⟨d,.sy x,b,g⟩ s v M=(i0 (aN s x) M=some v):=rfl
theorem aaC(x:aU):gk P ⟨d,.nE x,b,g⟩ s v M=(xV (aN s x)=some v):=rfl
theorem aaA(n:Nat):gk P ⟨d,.tZ n,b,g⟩ s v M=(some (.int .i64 n)=some v):=rfl
theorem aaF(mx:Bool)(x:aU)(y:aU):gk P ⟨d,.nI mx x y,b,g⟩ s v M=(sA mx (aN s x) (aN s y)=some v):=rfl
theorem aat(x:aU)(i:Nat):gk P ⟨d,.extract x i,b,g⟩ s v M=(wX (aN s x) i=some v):=rfl
theorem aaE(c:fl)(zero:List V)(bX:Bool)(ok:Bool)(m:aU)(jS:aU):gk P ⟨d,.lookup c zero bX ok m jS,b,g⟩ s v M=(oh c zero bX ok (aN s m) (aN s jS) M=some v):=rfl
end
attribute [go_sem↓high] aLH aNo aKS aJh aB9 ZJ ZK ZI Yn Yo Ym X0 X1 X2 YE YF YG YH YI YJ Zt Zw Zp Zq Zx Zy Yx Yy Yz YA Zb Zc Zu Zv Yu Yv ZG ZH YK YL YM YN YC YD Zn Zo ZA ZB ZD ZE YU YV YT YW YZ Y0 Y1 Y2 Y3 Y4 YX YY Y8 Y9 Y_ Za Y5 Y6 Zl Zm YR YS Ze Zf Zs Ys Yw ZF Zh YB Zi Yt Zg Zk Zj YQ YO Zd Zr ZC Zz YP Y7 aLZ aLY aL3 aL2 aL1 aBt aBs aBp aBo aBm aBl aBr aBq Yh Yi aKD aKC aIF aAP aaq aaH aaJ aan aao aaD aaI aam aaM aar aas aap aaG aaK aaL aav aau aax aay aaz aaw aaB aaC aaA aaF aat aaE
attribute [go_sem] Nat.reduceAdd Nat.reduceMul Nat.reduceSub Nat.reduceBEq Nat.reduceLeDiff Nat.reduceLT
attribute [go_sem] Yg Yf aIE aID XS X9 X7 X8 aLG aLF
end Go.aQ
namespace Go.aQ
abbrev ae:V:=.int .i64 0
abbrev cf:V:=.bool false
abbrev cZ:V:=.slice [] .nil
abbrev ad(n:Nat):aU:=.tmp n
abbrev bW(n:Int):aU:=.const (.int .i64 n)
abbrev f5:aU:=.const (.bool true)
abbrev cT:aU:=.const (.bool false)
abbrev fT:aU:=.const (.slice [] .nil)
abbrev aa:Bool:=true
abbrev fA:Bool:=false
abbrev a3(d:Nat)(o:dK):bt:=⟨some d,o,false,none⟩
abbrev dW(d:Nat)(o:dK):bt:=⟨some d,o,true,none⟩
abbrev lD(o:dK):bt:=⟨none,o,false,none⟩
abbrev au(n:Nat)(o:bt):bt:=⟨o.dst,o.op,o.bx,some (n,false)⟩
abbrev aA(n:Nat)(o:bt):bt:=⟨o.dst,o.op,o.bx,some (n,true)⟩
abbrev I(d a:Nat):bt:=⟨some d,.nJ (.tmp a),false,none⟩
abbrev aS(d a:Nat):bt:=⟨some d,.nJ (.tmp a),true,none⟩
abbrev aP(d:Nat)(n:Int):bt:=⟨some d,.nJ (.const (.int .i64 n)),false,none⟩
abbrev eA(d:Nat)(x:aU):bt:=⟨some d,.nJ x,false,none⟩
abbrev cn(d:Nat)(x:aU):bt:=⟨some d,.nJ x,true,none⟩
abbrev ai(d f a:Nat):bt:=⟨some d,.fieldAddr f (.tmp a),false,none⟩
abbrev an(d a:Nat):bt:=⟨some d,.load 1 false (.tmp a),false,none⟩
abbrev fc(d a:Nat):bt:=⟨some d,.load 1 false (.tmp a),true,none⟩
abbrev a0(d n a:Nat):bt:=⟨some d,.load n true (.tmp a),false,none⟩
abbrev bm(d z a i:Nat):bt:=⟨some d,.mr z (.tmp a) (.tmp i),false,none⟩
abbrev cc(d:Nat)(o:BinOp)(a b:Nat):bt:=⟨some d,.bin o .none (.tmp a) (.tmp b),false,none⟩
abbrev bz(d:Nat)(o:BinOp)(a b:Nat):bt:=⟨some d,.bin o .none (.tmp a) (.tmp b),true,none⟩
abbrev bo(d:Nat)(o:BinOp)(a:Nat)(n:Int):bt:=⟨some d,.bin o .none (.tmp a) (.const (.int .i64 n)),false,none⟩
abbrev bD(d:Nat)(o:BinOp)(a:Nat)(n:Int):bt:=⟨some d,.bin o .none (.tmp a) (.const (.int .i64 n)),true,none⟩
abbrev bE(d a:Nat):bt:=⟨some d,.sy (.tmp a),false,none⟩
abbrev bT(d a:Nat):bt:=⟨some d,.nilCheck (.tmp a),false,none⟩
abbrev cy(d n a:Nat):bt:=⟨some d,.box n (.tmp a),false,none⟩
abbrev cQ(d a:Nat):bt:=⟨some d,.un .not (.tmp a),true,none⟩
abbrev dr(d a i:Nat):bt:=⟨some d,.extract (.tmp a) i,false,none⟩
abbrev rA(d a i:Nat):bt:=⟨some d,.extract (.tmp a) i,true,none⟩
abbrev ck(d a b:Nat):bt:=⟨some d,.pick (.tmp a) (.const (.bool true)) (.tmp b),true,none⟩
abbrev cX(d a b:Nat):bt:=⟨some d,.pick (.tmp a) (.tmp b) (.const (.bool false)),true,none⟩
abbrev cD(d:Nat)(z:List V):bt:=⟨some d,.alloc z,false,none⟩
abbrev bB(d f:Nat)(l:List aU):bt:=⟨some d,.call f l,false,none⟩
abbrev cV(d f:Nat)(l:List aU):bt:=⟨some d,.call f l,true,none⟩
abbrev ib(d z b a x:Nat):bt:=⟨some d,.append false z b (.tmp a) (.tmp x),false,none⟩
abbrev bs(n a x:Nat):bt:=⟨none,.store n (.tmp a) (.tmp x),false,none⟩
abbrev J(o:List bt)(l:List Nat):bc:=.region o l
abbrev dq(o:List bt)(q:List Bool)(l:List Nat):bc:=.mixed o q l
abbrev am(a b:bc):bc:=.seq a b
abbrev ct(fj bU b4:bc):bc:=.seq fj (.seq bU b4)
abbrev cO(fj bU b4 cG:bc):bc:=.seq fj (.seq bU (.seq b4 cG))
abbrev f0(fj bU b4 cG dl:bc):bc:=.seq fj (.seq bU (.seq b4 (.seq cG dl)))
abbrev iB(fj bU b4 cG dl eY:bc):bc:=.seq fj (.seq bU (.seq b4 (.seq cG (.seq dl eY))))
abbrev tW(fj bU b4 cG dl eY fQ:bc):bc:=.seq fj (.seq bU (.seq b4 (.seq cG (.seq dl (.seq eY fQ)))))
abbrev iZ(fj bU b4 cG dl eY fQ jq:bc):bc:=.seq fj (.seq bU (.seq b4 (.seq cG (.seq dl (.seq eY (.seq fQ jq))))))
abbrev aJ(c:Nat)(a b:bc):bc:=.cond (.tmp c) a b
abbrev bi(i:Nat)(a:bc):bc:=.block i a
abbrev cw(l:List Nat)(a:bc):bc:=.loop l a
abbrev aE:bc:=.skip
abbrev b5(i:Nat):bc:=.exit i
abbrev aR:bc:=.ret
theorem aKR(P:Program)(aF:List bt)(live:List Nat)(x:aU)(a b:bc)(Q:Exit->aH->Mem->Prop)(s:aH)(M:Mem):dv P (.seq (.region aF live) (.cond x a b)) Q s M=@nh P aF M ⟨s,fun aM ah=>dv P (.cond x a b) Q (gW aM live) ah⟩:=rfl
theorem aH2(P:Program)(e:Nat)(z:List V)(aF:List bt)(bJ:List (Option (List Nat)))(live:List Nat)(Q:Exit->aH->Mem->Prop)(s:aH)(M:Mem):dv P (.sd e z aF bJ live) Q s M=@wr P z M.length e aF bJ 0 (M++[.dead]) ⟨[],s,fun aM ah=>Q .normal (gW aM live) ah⟩:=rfl
attribute [go_sem↓high] aKR aH2
def bf(_:Nat)(c:bc):bc:=c
theorem br(n:Nat)(P:Program)(c:bc)(Q:Exit->aH->Mem->Prop)(s:aH)(M:Mem):dv P (bf n c) Q s M=dv P c Q s M:=rfl
def rb:Nat->Code->bc->List (Nat×List Nat)×List (Nat×List Nat)
 |0,_,_=>([],[])
 |k+1,c,a=>
  match c,a with
  |.region i _ _,.region _ l=>([(i,l)],[])
  |.region i _ _,.mixed _ _ l=>([(i,l)],[])
  |.region i _ _,.float _ _ l=>([(i,l)],[])
  |.region i _ _,.sd _ _ _ _ l=>([(i,l)],[])
  |.seq a b,.seq x y=>let p:=rb k a x;let q:=rb k b y;(p.1++q.1,p.2++q.2)
  |.cond _ a b,.cond _ x y=>let p:=rb k a x;let q:=rb k b y;(p.1++q.1,p.2++q.2)
  |.block _ a,.block _ x=>rb k a x
  |.loop a,.loop l x=>let p:=rb k a x;(p.1,(oZ a,l)::p.2)
  |.scope a,.scope m l x y=>
   match findLabel a m with
   |some r=>let p:=rb k a x;let q:=rb k r y;(p.1++q.1,(oZ r,l)::(p.2++q.2))
   |none=>([],[])
  |_,_=>([],[])
def bF(P:Program)(f:Nat)(fn:bu)(m:List (Nat×List Nat)):Hints:=
 match P.funcs[f]? with
 |some F=>
  match F.body with
  |some c=>let r:=rb 200 c fn.body;⟨r.1,r.2,m⟩
  |none=>⟨[],[],m⟩
 |none=>⟨[],[],m⟩
end Go.aQ
namespace Go.aQ
section
variable{β:Type}
def e_(n:Nat)(k:Nat->β):β:=match n with
 |0=>k 0
 |m+1=>k (m+1)
def oW(b:Bool)(k:Bool->β):β:=match b with
 |true=>k true
 |false=>k false
def qZ{α:Type}(f:α->(α->β)->β)(o:Option α)(k:Option α->β):β:=match o with
 |none=>k none
 |some x=>f x fun y=>k (some y)
def hC{α:Type}(f:α->(α->β)->β):List α->(List α->β)->β
 |[],k=>k []
 |x::l,k=>f x fun y=>hC f l fun m=>k (y::m)
def dG(x:aU)(k:aU->β):β:=match x with
 |.tmp t=>e_ t fun t=>k (.tmp t)
 |.const v=>k (.const v)
def uX{α:Type}(x:α)(k:α->β):β:=k x
def Bh(x:Nat×Nat×aU)(k:Nat×Nat×aU->β):β:=match x with
 |(a,b,y)=>e_ a fun a=>e_ b fun b=>dG y fun y=>k (a,b,y)
def Lb(x:Nat×Bool)(k:Nat×Bool->β):β:=match x with
 |(a,b)=>e_ a fun a=>oW b fun b=>k (a,b)
def Lc(o:dK)(k:dK->β):β:=match o with
 |.nJ x=>dG x fun x=>k (.nJ x)
 |.pr n=>e_ n fun n=>k (.pr n)
 |.pick c a b=>dG c fun c=>dG a fun a=>dG b fun b=>k (.pick c a b)
 |.alloc z=>hC uX z fun z=>k (.alloc z)
 |.box n x=>e_ n fun n=>dG x fun x=>k (.box n x)
 |.build z p=>hC uX z fun z=>hC Bh p fun p=>k (.build z p)
 |.buildSlice z a b p=>hC uX z fun z=>e_ a fun a=>e_ b fun b=>hC Bh p fun p=>k (.buildSlice z a b p)
 |.qS z a p=>hC uX z fun z=>e_ a fun a=>hC Bh p fun p=>k (.qS z a p)
 |.load n a x=>e_ n fun n=>oW a fun a=>dG x fun x=>k (.load n a x)
 |.store n a x=>e_ n fun n=>dG a fun a=>dG x fun x=>k (.store n a x)
 |.nilCheck x=>dG x fun x=>k (.nilCheck x)
 |.bin o e x y=>dG x fun x=>dG y fun y=>k (.bin o e x y)
 |.un o x=>dG x fun x=>k (.un o x)
 |.conv i x=>dG x fun x=>k (.conv i x)
 |.td x=>dG x fun x=>k (.td x)
 |.qT x=>dG x fun x=>k (.qT x)
 |.my f c=>e_ f fun f=>hC dG c fun c=>k (.my f c)
 |.makeSlice z a b l c=>hC uX z fun z=>e_ a fun a=>e_ b fun b=>dG l fun l=>dG c fun c=>k (.makeSlice z a b l c)
 |.vN z b l c=>e_ b fun b=>dG l fun l=>dG c fun c=>k (.vN z b l c)
 |.slice s x a b c=>e_ s fun s=>dG x fun x=>qZ dG a fun a=>qZ dG b fun b=>qZ dG c fun c=>k (.slice s x a b c)
 |.ur x a b=>dG x fun x=>qZ dG a fun a=>qZ dG b fun b=>k (.ur x a b)
 |.fieldAddr n x=>e_ n fun n=>dG x fun x=>k (.fieldAddr n x)
 |.field a b c x=>e_ a fun a=>e_ b fun b=>oW c fun c=>dG x fun x=>k (.field a b c x)
 |.f_ a b x i=>e_ a fun a=>e_ b fun b=>dG x fun x=>dG i fun i=>k (.f_ a b x i)
 |.mr s x i=>e_ s fun s=>dG x fun x=>dG i fun i=>k (.mr s x i)
 |.pn x i=>dG x fun x=>dG i fun i=>k (.pn x i)
 |.tV a b g x i=>e_ a fun a=>e_ b fun b=>oW g fun g=>dG x fun x=>dG i fun i=>k (.tV a b g x i)
 |.sy x=>dG x fun x=>k (.sy x)
 |.nE x=>dG x fun x=>k (.nE x)
 |.tZ n=>e_ n fun n=>k (.tZ n)
 |.append i a b s x=>oW i fun i=>e_ a fun a=>e_ b fun b=>dG s fun s=>dG x fun x=>k (.append i a b s x)
 |.nI m x y=>oW m fun m=>dG x fun x=>dG y fun y=>k (.nI m x y)
 |.extract x i=>dG x fun x=>e_ i fun i=>k (.extract x i)
 |.makeMap r=>qZ dG r fun r=>k (.makeMap r)
 |.lookup c z a o m x=>hC uX z fun z=>oW a fun a=>oW o fun o=>dG m fun m=>dG x fun x=>k (.lookup c z a o m x)
 |.mapUpdate c m x y=>dG m fun m=>dG x fun x=>dG y fun y=>k (.mapUpdate c m x y)
 |.mapEntry c z m x=>dG m fun m=>dG x fun x=>k (.mapEntry c z m x)
 |.entryStore m s x=>dG m fun m=>dG s fun s=>dG x fun x=>k (.entryStore m s x)
 |.copy s d x=>e_ s fun s=>dG d fun d=>dG x fun x=>k (.copy s d x)
 |.uq s x h m=>e_ s fun s=>dG x fun x=>dG h fun h=>dG m fun m=>k (.uq s x h m)
 |.ua x=>dG x fun x=>k (.ua x)
 |.ry x=>dG x fun x=>k (.ry x)
 |.call f l=>e_ f fun f=>hC dG l fun l=>k (.call f l)
 |.hd f l=>dG f fun f=>hC dG l fun l=>k (.hd f l)
 |.oq n x y=>oW n fun n=>dG x fun x=>dG y fun y=>k (.oq n x y)
 |.uh x=>dG x fun x=>k (.uh x)
 |.rz x=>dG x fun x=>k (.rz x)
 |.tf x=>dG x fun x=>k (.tf x)
 |.t_ x=>dG x fun x=>k (.t_ x)
def y_(o:bt)(k:bt->β):β:=match o with
 |⟨d,op,b,g⟩=>qZ e_ d fun d=>Lc op fun op=>oW b fun b=>qZ Lb g fun g=>k ⟨d,op,b,g⟩
def ko:bc->(bc->β)->β
 |.skip,k=>k .skip
 |.region o l,k=>hC y_ o fun o=>hC e_ l fun l=>k (.region o l)
 |.mixed o q l,k=>hC y_ o fun o=>hC oW q fun q=>hC e_ l fun l=>k (.mixed o q l)
 |.float o q l,k=>hC y_ o fun o=>hC (qZ (hC e_)) q fun q=>hC e_ l fun l=>k (.float o q l)
 |.sd c z o q l,k=>e_ c fun c=>hC uX z fun z=>hC y_ o fun o=>hC (qZ (hC e_)) q fun q=>hC e_ l fun l=>k (.sd c z o q l)
 |.seq a b,k=>ko a fun a=>ko b fun b=>k (.seq a b)
 |.cond c a b,k=>dG c fun c=>ko a fun a=>ko b fun b=>k (.cond c a b)
 |.block i a,k=>e_ i fun i=>ko a fun a=>k (.block i a)
 |.loop l a,k=>hC e_ l fun l=>ko a fun a=>k (.loop l a)
 |.scope i l a b,k=>e_ i fun i=>hC e_ l fun l=>ko a fun a=>ko b fun b=>k (.scope i l a b)
 |.exit i,k=>e_ i fun i=>k (.exit i)
 |.label,k=>k .label
 |.goto l,k=>e_ l fun l=>k (.goto l)
 |.ret,k=>k .ret
def Ld(r:mJ)(k:mJ->β):β:=match r with
 |.tmp t=>e_ t fun t=>k (.tmp t)
 |.cell a b c=>e_ a fun a=>e_ b fun b=>oW c fun c=>k (.cell a b c)
def La(f:bu)(k:bu->β):β:=match f with
 |⟨n,r,b⟩=>e_ n fun n=>hC Ld r fun r=>ko b fun b=>k ⟨n,r,b⟩
theorem kU(n:Nat)(k:Nat->β):e_ n k=k n:=by cases n<;>rfl
theorem Bf(b:Bool)(k:Bool->β):oW b k=k b:=by cases b<;>rfl
theorem Bg{α:Type}{f:α->(α->β)->β}(h:∀x k,f x k=k x)(o:Option α)(k:Option α->β):qZ f o k=k o:=by
 cases o with
 |none=>rfl
 |some x=>exact h x _
theorem kp{α:Type}{f:α->(α->β)->β}(h:∀x k,f x k=k x):∀(l:List α)(k:List α->β),hC f l k=k l
 |[],_=>rfl
 |x::l,k=>by
  show f x _=_;rw[h,kp h l]
theorem Rb{α:Type}(x:α)(k:α->β):uX x k=k x:=rfl
theorem Bi(x:aU)(k:aU->β):dG x k=k x:=by
 cases x with
 |tmp t=>simp only[dG,kU]
 |const v=>rfl
theorem aBE(x:Nat×Nat×aU)(k:Nat×Nat×aU->β):Bh x k=k x:=by
 obtain⟨a,b,y⟩:=x;simp only[Bh,kU,Bi]
theorem aBC(x:Nat×Bool)(k:Nat×Bool->β):Lb x k=k x:=by
 obtain⟨a,b⟩:=x;simp only[Lb,kU,Bf]
theorem aBD(o:dK)(k:dK->β):Lc o k=k o:=by
 cases o<;>simp only[Lc,kU,Bf,Bi,kp Rb,kp aBE,kp Bi,Bg Bi]
theorem Fo(o:bt)(k:bt->β):y_ o k=k o:=by
 obtain⟨d,op,b,g⟩:=o;simp only[y_,Bg kU,aBD,Bf,Bg aBC]
theorem ti:∀(c:bc)(k:bc->β),ko c k=k c
 |.skip,_|.label,_|.ret,_=>rfl
 |.region o l,k=>by simp only[ko,kp Fo,kp kU]
 |.mixed o q l,k=>by simp only[ko,kp Fo,kp Bf,kp kU]
 |.float o q l,k=>by simp only[ko,kp Fo,kp (Bg (kp kU)),kp kU]
 |.sd c z o q l,k=>by simp only[ko,kU,kp Rb,kp Fo,kp (Bg (kp kU)),kp kU]
 |.seq a b,k=>by simp only[ko,ti a,ti b]
 |.cond c a b,k=>by simp only[ko,Bi,ti a,ti b]
 |.block i a,k=>by simp only[ko,kU,ti a]
 |.loop l a,k=>by simp only[ko,kp kU,ti a]
 |.scope i l a b,k=>by simp only[ko,kU,kp kU,ti a,ti b]
 |.exit i,k=>by simp only[ko,kU]
 |.goto l,k=>by simp only[ko,kU]
theorem aBF(r:mJ)(k:mJ->β):Ld r k=k r:=by
 cases r<;>simp only[Ld,kU,Bf]
theorem aBB(f:bu)(k:bu->β):La f k=k f:=by
 obtain⟨n,r,b⟩:=f;simp only[La,kU,kp aBF,ti]
def wg(P:Program):List (Nat×Hints×Bool)->List (Nat×bu×Bool)->(List (Nat×bu×Bool)->β)->β->β
 |[],t,k,_=>k t
 |(n,h,b)::r,t,k,z=>match bC P h n with
  |some fn=>La fn fun fn=>wg P r ((n,fn,b)::t) k z
  |none=>z
theorem Xj{P:Program}{z:β}:∀{l:List (Nat×Hints×Bool)}{t:List (Nat×bu×Bool)}{k:List (Nat×bu×Bool)->β}{r:β},pH P (l6 t)->wg P l t k z=r->r≠z->∃gD,pH P (l6 gD)/\k gD=r
 |[],t,k,r,aT,h,_=>⟨t,aT,h⟩
 |(n,hi,b)::l,t,k,r,aT,h,a7=>by
  unfold wg at h;split at h
  . rename_i fn aC
    rw[aBB] at h;exact Xj (dM aC aT) h a7
  . exact absurd h.symm a7
end
end Go.aQ
namespace Go.aQ.C
open Go.aQ
abbrev IY:Nat:=4
abbrev IP:Nat:=7
abbrev IW:Nat:=8
abbrev IZ:Nat:=9
abbrev I0:Nat:=14
abbrev DD:Nat:=15
abbrev Dy:Nat:=16
abbrev Dk:Nat:=17
abbrev HB:Nat:=18
abbrev xJ:Nat:=19
abbrev Do:Nat:=20
abbrev HH:Nat:=21
abbrev DI:Nat:=25
abbrev IX:Nat:=26
abbrev HM:Nat:=31
abbrev Ds:Nat:=32
abbrev HW:Nat:=33
abbrev kb:Nat:=34
abbrev Iw:Nat:=35
abbrev Is:Nat:=36
abbrev DA:Nat:=37
abbrev Dz:Nat:=38
abbrev H3:Nat:=39
abbrev Hu:Nat:=40
abbrev H2:Nat:=41
abbrev Dn:Nat:=42
abbrev HD:Nat:=43
abbrev Dl:Nat:=44
abbrev HC:Nat:=45
abbrev zV:Nat:=46
abbrev Dp:Nat:=47
abbrev zW:Nat:=48
abbrev Dq:Nat:=49
abbrev IL:Nat:=54
abbrev tT:Nat:=55
abbrev DB:Nat:=67
abbrev HQ:Nat:=68
abbrev HO:Nat:=69
abbrev tR:Nat:=70
abbrev zX:Nat:=71
abbrev zP:Nat:=72
abbrev Dv:Nat:=73
abbrev Iz:Nat:=74
abbrev HZ:Nat:=75
abbrev Il:Nat:=76
abbrev IJ:Nat:=77
abbrev Ip:Nat:=78
abbrev zU:Nat:=79
abbrev jP:Nat:=80
abbrev H9:Nat:=81
abbrev H7:Nat:=82
abbrev H8:Nat:=83
abbrev Hw:Nat:=84
abbrev Di:Nat:=85
abbrev xI:Nat:=86
abbrev Dm:Nat:=87
abbrev HE:Nat:=88
abbrev rp:Nat:=89
abbrev xN:Nat:=90
abbrev Io:Nat:=91
abbrev DC:Nat:=92
abbrev Dh:Nat:=93
abbrev Hv:Nat:=94
abbrev Hx:Nat:=95
abbrev HL:Nat:=96
abbrev HA:Nat:=99
abbrev zN:Nat:=100
abbrev IV:Nat:=101
abbrev IT:Nat:=102
abbrev IU:Nat:=103
abbrev IR:Nat:=104
abbrev IS:Nat:=105
abbrev IN:Nat:=106
abbrev Ig:Nat:=123
abbrev Ie:Nat:=124
abbrev If:Nat:=125
abbrev Ib:Nat:=126
abbrev Ia:Nat:=127
abbrev H_:Nat:=128
abbrev Ic:Nat:=129
abbrev HN:Nat:=130
abbrev vA:Nat:=131
abbrev vB:Nat:=132
abbrev vC:Nat:=133
abbrev vD:Nat:=134
abbrev HP:Nat:=135
abbrev Ir:Nat:=136
abbrev zQ:Nat:=137
abbrev HU:Nat:=138
abbrev zS:Nat:=139
abbrev HV:Nat:=140
abbrev Iu:Nat:=141
abbrev xO:Nat:=142
abbrev zY:Nat:=143
abbrev DF:Nat:=144
abbrev In:Nat:=145
abbrev Iq:Nat:=146
abbrev Hy:Nat:=147
abbrev tS:Nat:=148
abbrev Ih:Nat:=149
abbrev HR:Nat:=150
abbrev HF:Nat:=151
abbrev H4:Nat:=153
abbrev Dj:Nat:=154
abbrev xP:Nat:=155
abbrev kc:Nat:=156
abbrev IK:Nat:=157
abbrev IQ:Nat:=158
abbrev IM:Nat:=159
abbrev HG:Nat:=165
abbrev zR:Nat:=166
abbrev Ix:Nat:=167
abbrev zZ:Nat:=168
abbrev HY:Nat:=169
abbrev Iv:Nat:=170
abbrev It:Nat:=171
abbrev Ij:Nat:=172
abbrev Ik:Nat:=173
abbrev Ii:Nat:=174
abbrev Hz:Nat:=175
abbrev HT:Nat:=176
abbrev HS:Nat:=177
abbrev MS:Nat:=186
abbrev H5:Nat:=187
abbrev DH:Nat:=188
abbrev HK:Nat:=197
abbrev HI:Nat:=198
abbrev Dr:Nat:=199
abbrev HJ:Nat:=200
abbrev DE:Nat:=201
abbrev H0:Nat:=202
abbrev Im:Nat:=203
abbrev Du:Nat:=204
abbrev zO:Nat:=205
abbrev IF:Nat:=206
abbrev Dt:Nat:=207
abbrev H6:Nat:=216
abbrev Iy:Nat:=217
abbrev IA:Nat:=218
abbrev z3:Nat:=219
abbrev IB:Nat:=222
abbrev IE:Nat:=223
abbrev ID:Nat:=224
abbrev IC:Nat:=225
abbrev IH:Nat:=226
abbrev aHt:Nat:=227
abbrev aHs:Nat:=228
abbrev IG:Nat:=229
abbrev aHw:Nat:=230
abbrev II:Nat:=231
abbrev aHv:Nat:=232
abbrev aHu:Nat:=233
abbrev z0:Nat:=234
abbrev HX:Nat:=235
abbrev jQ:Nat:=236
abbrev xL:Nat:=237
abbrev xK:Nat:=238
abbrev z1:Nat:=240
abbrev DG:Nat:=241
abbrev xM:Nat:=242
abbrev vE:Nat:=243
abbrev zT:Nat:=244
abbrev Dx:Nat:=245
abbrev z2:Nat:=246
abbrev Dw:Nat:=247
noncomputable abbrev av:Program:=Go.Proofs.Tryz.prog
end Go.aQ.C
namespace Go.aQ.C
open Go.aQ
abbrev auA:=J [cy 2 9 0,cy 3 10 1,cn 4 cT] [2,3]
abbrev auK:=J [cV 28 IZ [],aS 4 28] [4]
abbrev auV:=am (J [a0 20 9 2,a0 21 10 3,cV 22 I0 [ad 20,ad 21],cQ 23 22,aS 24 23,au 24 (ai 25 3 3),au 24 (fc 26 25),ck 27 24 26] [2,3,27]) (aJ 27 (am auK aR) aE)
abbrev auY:bc:=bf 8 (J [a0 30 9 2,a0 31 10 3,bB 32 DD [ad 30,ad 31],I 29 32,dr 33 29 0,dr 34 29 1,I 5 33,I 6 34] [2,5,6])
abbrev auB:bc:=bf 10 (J [I 35 5,bE 36 35,aP 37 0] [2,5,6,36,37])
abbrev auC:bc:=bf 12 (J [cc 38 .lss 37 36] [2,5,6,36,37,38])
abbrev auD:bc:=bf 15 (J [I 39 37,I 7 39] [2,5,6,7,36,37])
abbrev auE:bc:=bf 17 (dq [a0 41 9 2,I 42 5,I 43 7,bm 44 7 42 43,ai 45 0 44,a0 46 1 45,bB 47 Dy [ad 41,ad 46],I 40 47,dr 48 40 0,dr 49 40 1,I 8 48,I 9 49] [aa,aa,aa,aa,aa,aa,fA,aa,aa,aa,aa,aa] [2,5,6,7,8,9,36,37])
abbrev auF:bc:=bf 19 (J [ai 51 5 2,a0 52 4 51,I 53 8,bB 54 Dk [ad 52,ad 53],I 50 54,dr 55 50 0,dr 56 50 1,dr 57 50 2,I 10 55,I 11 56,I 12 57] [2,5,6,7,8,9,10,12,36,37])
abbrev auG:bc:=bf 21 (dq [ai 59 5 2,a0 60 4 59,I 61 8,I 62 5,I 63 7,bm 64 7 62 63,ai 65 6 64,an 66 65,bB 67 HB [ad 60,ad 61,ad 66],I 58 67,dr 68 58 0,dr 69 58 1,I 13 68,I 14 69] [aa,aa,aa,aa,aa,aa,aa,aa,fA,aa,aa,aa,aa,aa] [2,5,6,7,8,9,10,12,13,14,36,37])
abbrev auH:=J [cn 4 cT] [4]
abbrev auI:bc:=bf 26 (am (J [I 70 9,bD 71 .neq 70 0,aS 72 71,au 72 (I 73 12),au 72 (bD 74 .neq 73 0),ck 75 72 74,aS 76 75,au 76 (I 77 14),au 76 (bD 78 .neq 77 0),ck 79 76 78,aS 80 79,au 80 (I 81 10),au 80 (I 82 5),au 80 (I 83 7),au 80 (bm 84 7 82 83),au 80 (ai 85 1 84),au 80 (ai 86 3 85),au 80 (an 87 86),au 80 (bz 88 .neq 81 87),ck 89 80 88,aS 90 89,au 90 (I 91 13),au 90 (I 92 10),au 90 (bz 93 .neq 91 92),ck 94 90 93] [2,5,6,8,10,36,37,94]) (aJ 94 (am auH aR) aE))
abbrev auJ:bc:=bf 28 (J [ai 96 5 2,a0 97 4 96,bB 98 xJ [ad 97],I 95 98,dr 99 95 0,dr 100 95 1,I 15 99,I 16 100] [2,5,6,8,10,15,16,36,37])
abbrev auL:bc:=bf 30 (J [aP 17 0] [2,5,6,8,10,15,16,17,36,37])
abbrev auM:bc:=bf 32 (am (J [I 101 17,I 102 8,bE 103 102,bz 104 .lss 101 103,aS 105 104,aA 105 (I 106 16),aA 105 (bD 107 .eql 106 0),cX 108 105 107,aS 109 108,aA 109 (I 110 15),aA 109 (dW 111 (.bin .neq .ptr (ad 110) (.const .dm))),cX 112 109 111] [2,5,6,8,10,15,16,17,36,37,112]) (aJ 112 aE (b5 2)))
abbrev auN:bc:=bf 34 (J [I 116 15,I 117 8,I 118 17,bm 119 4 117 118,a0 120 4 119,bB 121 Do [ad 116,ad 120],I 115 121,dr 122 115 0,dr 123 115 1,I 15 122,I 16 123] [2,5,6,8,10,15,16,17,36,37])
abbrev auO:bc:=bf 37 (J [I 113 17,bo 114 .add 113 1,I 17 114] [2,5,6,8,10,15,16,17,36,37])
abbrev auP:bc:=bf 41 (bi 2 (cw [2,5,6,8,10,15,16,17,36,37] (ct auM (bi 3 auN) auO)))
abbrev auQ:=J [cn 4 cT] [4]
abbrev auR:bc:=bf 47 (am (J [I 124 16,bD 125 .neq 124 0,aS 126 125,au 126 (I 127 15),au 126 (dW 128 (.bin .eql .ptr (ad 127) (.const .dm))),ck 129 126 128] [2,5,6,10,15,36,37,129]) (aJ 129 (am auQ aR) aE))
abbrev auS:bc:=bf 49 (J [I 131 15,bB 132 HH [ad 131],I 130 132,dr 133 130 0,rA 134 130 1,I 18 133,aS 19 134] [2,5,6,10,18,19,36,37])
abbrev auT:=J [cn 4 cT] [4]
abbrev auU:bc:=bf 54 (am (J [aS 135 19,cQ 136 135,aS 137 136,au 137 (I 138 18),au 137 (I 139 10),au 137 (bz 140 .neq 138 139),ck 141 137 140] [2,5,6,36,37,141]) (aJ 141 (am auT aR) aE))
abbrev auW:bc:=bf 66 (J [bo 142 .add 37 1,I 37 142] [2,5,6,36,37])
abbrev auX:bc:=bf 74 (J [I 143 6,bD 144 .eql 143 0,aS 145 144,aA 145 (cV 146 IZ []),cX 147 145 146,aS 4 147] [4])
def GL:bu:=⟨148,[(.tmp 4)],iB auA auV auY (am auB (bi 0 (cw [2,5,6,36,37] (cO auC (aJ 38 aE (b5 0)) (bi 1 (ct auD auE (iZ auF auG auI auJ (am auL auP) auR auS auU))) auW)))) auX aR⟩
theorem aDw:bC av (bF av IY GL []) IY=some GL:=by kernel_rfl
abbrev axo:=J [cy 1 9 0,cn 2 cT] [1]
abbrev axu:=J [cn 2 cT] [2]
abbrev axv:=am (J [ai 4 0 1,an 5 4,bE 6 5,bD 7 .gtr 6 5,aS 8 7,au 8 (ai 9 2 1),au 8 (an 10 9),au 8 (bE 11 10),au 8 (bD 12 .gtr 11 7),ck 13 8 12,aS 14 13,au 14 (ai 15 3 1),au 14 (an 16 15),au 14 (bE 17 16),au 14 (bD 18 .gtr 17 30),ck 19 14 18,aS 20 19,au 20 (ai 21 4 1),au 20 (an 22 21),au 20 (bE 23 22),au 20 (bD 24 .gtr 23 60),ck 25 20 24] [1,25]) (aJ 25 (am axu aR) aE)
abbrev axw:=J [aP 3 0] [1,3]
abbrev axp:=am (J [I 26 3,ai 27 2 1,an 28 27,bE 29 28,bz 30 .lss 26 29] [1,3,30]) (aJ 30 aE (b5 0))
abbrev axq:=J [cn 2 cT] [2]
abbrev axr:=am (J [ai 33 2 1,an 34 33,I 35 3,bm 36 8 34 35,ai 37 7 36,an 38 37,bE 39 38,bD 40 .gtr 39 6] [1,3,40]) (aJ 40 (am axq aR) aE)
abbrev axs:=J [I 31 3,bo 32 .add 31 1,I 3 32] [1,3]
abbrev axt:=J [a0 41 9 1,cV 42 DI [ad 41],aS 2 42] [2]
def Gx:bu:=⟨43,[(.tmp 2)],f0 axo axv (am axw (bi 0 (cw [1,3] (ct axp (bi 1 axr) axs)))) axt aR⟩
theorem aDj:bC av (bF av IP Gx []) IP=some Gx:=by kernel_rfl
abbrev ayX:=J [cy 2 9 0,cy 3 10 1,aP 4 0] [2,3]
abbrev ay0:=J [aP 4 21] [4]
abbrev ay1:=am (J [a0 5 9 2,cV 6 DI [ad 5],cQ 7 6] [2,3,7]) (aJ 7 (am ay0 aR) aE)
abbrev ay2:=J [aP 4 22] [4]
abbrev ayY:=am (J [ai 8 0 2,an 9 8,bE 10 9,a0 11 10 3,cV 12 IX [ad 10,ad 11],cQ 13 12] [13]) (aJ 13 (am ay2 aR) aE)
abbrev ayZ:=J [aP 4 0] [4]
def GI:bu:=⟨14,[(.tmp 4)],f0 ayX ay1 ayY ayZ aR⟩
theorem aDt:bC av (bF av IW GI []) IW=some GI:=by kernel_rfl
abbrev agk:=J [cy 2 9 0,cy 3 10 1,cn 4 cT] [2,3]
abbrev agl:=J [a0 5 9 2,cV 6 IP [ad 5],aS 7 6,aA 7 (ai 8 4 3),aA 7 (an 9 8),aA 7 (bD 10 .leq 9 3),cX 11 7 10,aS 12 11,aA 12 (a0 13 9 2),aA 12 (a0 14 10 3),aA 12 (bB 15 IW [ad 13,ad 14]),aA 12 (bD 16 .eql 15 0),cX 17 12 16,aS 4 17] [4]
def GM:bu:=⟨18,[(.tmp 4)],ct agk agl aR⟩
theorem aDx:bC av (bF av I0 GM []) I0=some GM:=by kernel_rfl
abbrev arF:=J [cy 1 9 0,cn 2 cT] [1]
abbrev arG:=J [a0 7 9 1,bB 8 IL [ad 7],I 6 8,dr 9 6 0,dr 10 6 1,dr 11 6 2,I 3 9,I 4 10,I 5 11] [5]
abbrev arH:=J [I 12 5,bD 13 .eql 12 0,aS 2 13] [2]
def Gy:bu:=⟨14,[(.tmp 2)],cO arF arG arH aR⟩
theorem aDl:bC av (bF av DI Gy []) DI=some Gy:=by kernel_rfl
abbrev arI:=J [cy 3 10 1,cn 4 cT] [0,3]
abbrev arJ:=J [ai 5 0 3,an 6 5,I 7 0,bo 8 .sub 7 1,cV 9 tT [ad 6,bW 0,ad 8],aS 10 9,aA 10 (ai 11 1 3),aA 10 (an 12 11),aA 10 (I 13 0),aA 10 (bo 14 .sub 13 1),aA 10 (cV 15 tT [ad 12,bW 0,ad 14]),cX 16 10 15,aS 17 16,aA 17 (ai 18 2 3),aA 17 (an 19 18),aA 17 (cV 20 tT [ad 19,bW 0,bW 3155932800]),cX 21 17 20,aS 22 21,aA 22 (ai 23 4 3),aA 22 (an 24 23),aA 22 (cV 25 tT [ad 24,bW 0,bW 8]),cX 26 22 25,aS 27 26,aA 27 (ai 28 5 3),aA 27 (an 29 28),aA 27 (cV 30 tT [ad 29,bW 0,bW 86400]),cX 31 27 30,aS 32 31,aA 32 (ai 33 8 3),aA 32 (an 34 33),aA 32 (cV 35 tT [ad 34,bW 0,bW 255]),cX 36 32 35,aS 37 36,aA 37 (ai 38 9 3),aA 37 (fc 39 38),aA 37 (aS 40 39),aA 40 (ai 41 3 3),aA 40 (fc 42 41),aA 37 (cX 43 40 42),aA 37 (cQ 44 43),cX 45 37 44,aS 4 45] [4]
def GJ:bu:=⟨46,[(.tmp 4)],ct arI arJ aR⟩
theorem aDu:bC av (bF av IX GJ []) IX=some GJ:=by kernel_rfl
abbrev auZ:=J [cy 1 9 0,aP 2 0,aP 3 0,aP 4 0] [1]
abbrev au9:=J [ai 10 0 1,an 11 10,bB 12 IV [ad 11],I 9 12,dr 13 9 0,dr 14 9 1,I 5 13,I 6 14] [1,5,6]
abbrev avf:=J [I 17 5,I 18 6,aP 2 0,I 3 17,I 4 18] [2,3,4]
abbrev avq:=am (J [I 15 6,bD 16 .neq 15 0] [1,5,6,16]) (aJ 16 (am avf aR) aE)
abbrev au0:=J [ai 20 1 1,an 21 20,bB 22 IT [ad 21],I 19 22,dr 23 19 0,dr 24 19 1,I 5 23,I 6 24] [1,5,6]
abbrev au1:=J [I 27 5,I 28 6,aP 2 1,I 3 27,I 4 28] [2,3,4]
abbrev au2:=am (J [I 25 6,bD 26 .neq 25 0] [1,5,6,26]) (aJ 26 (am au1 aR) aE)
abbrev au3:=J [aP 2 2,aP 3 0,aP 4 5] [2,3,4]
abbrev au4:=am (J [ai 29 2 1,an 30 29,bE 31 30,bD 32 .gtr 31 1024] [1,32]) (aJ 32 (am au3 aR) aE)
abbrev au5:=J [aP 7 0] [1,7]
abbrev au6:=am (J [I 33 7,ai 34 2 1,an 35 34,bE 36 35,bz 37 .lss 33 36] [1,7,37]) (aJ 37 aE (b5 0))
abbrev au7:=J [a0 40 9 1,I 41 7,bB 42 IU [ad 40,ad 41],I 6 42] [1,6,7]
abbrev au8:=J [I 45 7,I 46 6,aP 2 2,I 3 45,I 4 46] [2,3,4]
abbrev au_:=am (J [I 43 6,bD 44 .neq 43 0] [1,6,7,44]) (aJ 44 (am au8 aR) aE)
abbrev ava:=J [I 38 7,bo 39 .add 38 1,I 7 39] [1,7]
abbrev avb:=J [aP 2 3,aP 3 0,aP 4 5] [2,3,4]
abbrev avc:=am (J [ai 47 3 1,an 48 47,bE 49 48,bD 50 .gtr 49 1024] [1,50]) (aJ 50 (am avb aR) aE)
abbrev avd:=J [aP 8 0] [1,8]
abbrev ave:=am (J [I 51 8,ai 52 3 1,an 53 52,bE 54 53,bz 55 .lss 51 54] [1,8,55]) (aJ 55 aE (b5 2))
abbrev avg:=J [a0 58 9 1,I 59 8,bB 60 IR [ad 58,ad 59],I 6 60] [1,6,8]
abbrev avh:=J [I 63 8,I 64 6,aP 2 3,I 3 63,I 4 64] [2,3,4]
abbrev avi:=am (J [I 61 6,bD 62 .neq 61 0] [1,6,8,62]) (aJ 62 (am avh aR) aE)
abbrev avj:=J [I 56 8,bo 57 .add 56 1,I 8 57] [1,8]
abbrev avk:=J [a0 66 9 1,bB 67 IS [ad 66],I 65 67,dr 68 65 0,dr 69 65 1,I 5 68,I 6 69] [1,5,6]
abbrev avl:=J [I 72 5,I 73 6,aP 2 4,I 3 72,I 4 73] [2,3,4]
abbrev avm:=am (J [I 70 6,bD 71 .neq 70 0] [1,5,6,71]) (aJ 71 (am avl aR) aE)
abbrev avn:=J [ai 75 5 1,a0 76 4 75,bB 77 IN [ad 76],I 74 77,dr 78 74 0,dr 79 74 1,I 5 78,I 6 79] [5,6]
abbrev avo:=J [I 82 5,I 83 6,aP 2 5,I 3 82,I 4 83] [2,3,4]
abbrev avp:=am (J [I 80 6,bD 81 .neq 80 0] [5,6,81]) (aJ 81 (am avo aR) aE)
abbrev avr:=J [aP 2 0,aP 3 0,aP 4 0] [2,3,4]
def Gt:bu:=⟨84,[(.tmp 2),(.tmp 3),(.tmp 4)],iZ auZ au9 avq au0 au2 au4 (am au5 (bi 0 (cw [1,7] (ct au6 (bi 1 (am au7 au_)) ava)))) (iZ avc (am avd (bi 2 (cw [1,8] (ct ave (bi 3 (am avg avi)) avj)))) avk avm avn avp avr aR)⟩
theorem aDf:bC av (bF av IL Gt []) IL=some Gt:=by kernel_rfl
abbrev avs:=J [cn 6 cT] [0,1,2]
abbrev avt:=J [I 7 0,I 8 1,bz 9 .geq 7 8,aS 10 9,aA 10 (I 11 0),aA 10 (I 12 2),aA 10 (bz 13 .leq 11 12),cX 14 10 13,aS 6 14] [6]
def GK:bu:=⟨15,[(.tmp 6)],ct avs avt aR⟩
theorem aDv:bC av (bF av tT GK []) tT=some GK:=by kernel_rfl
abbrev ab2:=J [aP 2 0,aP 3 0] [0]
abbrev aca:=J [aP 2 0,aP 3 5] [2,3]
abbrev acg:=am (J [I 6 0,bE 7 6,bD 8 .gtr 7 64] [0,8]) (aJ 8 (am aca aR) aE)
abbrev ach:=J [aP 4 0] [0,4]
abbrev ab3:=am (J [I 9 4,I 10 0,bE 11 10,bz 12 .lss 9 11] [0,4,12]) (aJ 12 aE (b5 0))
abbrev ab4:=J [I 22 4,I 2 22,aP 3 12] [2,3]
abbrev ab5:=am (J [I 15 0,I 16 4,bm 17 4 15 16,ai 18 0 17,an 19 18,cV 20 xP [ad 19],cQ 21 20] [0,4,21]) (aJ 21 (am ab4 aR) aE)
abbrev ab6:=J [aP 5 0] [0,4,5]
abbrev ab7:=am (J [I 23 5,I 24 4,bz 25 .lss 23 24] [0,4,5,25]) (aJ 25 aE (b5 2))
abbrev ab8:=J [I 39 4,I 2 39,aP 3 6] [2,3]
abbrev ab9:=am (dq [I 28 0,I 29 5,bm 30 4 28 29,ai 31 0 30,an 32 31,I 33 0,I 34 4,bm 35 4 33 34,ai 36 0 35,an 37 36,bz 38 .eql 32 37] [aa,aa,aa,aa,aa,aa,aa,aa,aa,aa,aa] [0,4,5,38]) (aJ 38 (am ab8 aR) aE)
abbrev ab_:=J [I 26 5,bo 27 .add 26 1,I 5 27] [0,4,5]
abbrev acb:=J [I 56 4,I 2 56,aP 3 2] [2,3]
abbrev acd:=am (J [I 40 0,I 41 4,bm 42 4 40 41,ai 43 1 42,an 44 43,cV 45 kc [ad 44,bW 0,bW 15],cQ 46 45,aS 47 46,au 47 (I 48 0),au 47 (I 49 4),au 47 (bm 50 4 48 49),au 47 (ai 51 3 50),au 47 (an 52 51),au 47 (cV 53 kc [ad 52,bW 0,bW 3600]),au 47 (cQ 54 53),ck 55 47 54] [0,4,55]) (aJ 55 (am acb aR) aE)
abbrev ace:=J [I 13 4,bo 14 .add 13 1,I 4 14] [0,4]
abbrev acf:=J [aP 2 0,aP 3 0] [2,3]
def GH:bu:=⟨57,[(.tmp 2),(.tmp 3)],f0 ab2 acg (am ach (bi 0 (cw [0,4] (ct ab3 (bi 1 (ct ab5 (am ab6 (bi 2 (cw [0,4,5] (ct ab7 (bi 3 ab9) ab_)))) acd)) ace)))) acf aR⟩
theorem aDs:bC av (bF av IV GH []) IV=some GH:=by kernel_rfl
abbrev aci:=J [aP 2 0,aP 3 0] [0]
abbrev acr:=J [aP 2 0,aP 3 5] [2,3]
abbrev acw:=am (J [I 6 0,bE 7 6,bD 8 .gtr 7 64] [0,8]) (aJ 8 (am acr aR) aE)
abbrev acx:=J [aP 4 0] [0,4]
abbrev acj:=am (J [I 9 4,I 10 0,bE 11 10,bz 12 .lss 9 11] [0,4,12]) (aJ 12 aE (b5 0))
abbrev ack:=J [I 22 4,I 2 22,aP 3 12] [2,3]
abbrev acl:=am (J [I 15 0,I 16 4,bm 17 3 15 16,ai 18 0 17,an 19 18,cV 20 xP [ad 19],cQ 21 20] [0,4,21]) (aJ 21 (am ack aR) aE)
abbrev acm:=J [aP 5 0] [0,4,5]
abbrev acn:=am (J [I 23 5,I 24 4,bz 25 .lss 23 24] [0,4,5,25]) (aJ 25 aE (b5 2))
abbrev aco:=J [I 39 4,I 2 39,aP 3 6] [2,3]
abbrev acp:=am (dq [I 28 0,I 29 5,bm 30 3 28 29,ai 31 0 30,an 32 31,I 33 0,I 34 4,bm 35 3 33 34,ai 36 0 35,an 37 36,bz 38 .eql 32 37] [aa,aa,aa,aa,aa,aa,aa,aa,aa,aa,aa] [0,4,5,38]) (aJ 38 (am aco aR) aE)
abbrev acq:=J [I 26 5,bo 27 .add 26 1,I 5 27] [0,4,5]
abbrev acs:=J [I 47 4,I 2 47,aP 3 2] [2,3]
abbrev act:=am (J [I 40 0,I 41 4,bm 42 3 40 41,ai 43 1 42,an 44 43,cV 45 kc [ad 44,bW 0,bW 7],cQ 46 45] [0,4,46]) (aJ 46 (am acs aR) aE)
abbrev acu:=J [I 13 4,bo 14 .add 13 1,I 4 14] [0,4]
abbrev acv:=J [aP 2 0,aP 3 0] [2,3]
def GF:bu:=⟨48,[(.tmp 2),(.tmp 3)],f0 aci acw (am acx (bi 0 (cw [0,4] (ct acj (bi 1 (ct acl (am acm (bi 2 (cw [0,4,5] (ct acn (bi 3 acp) acq)))) act)) acu)))) acv aR⟩
theorem aDq:bC av (bF av IT GF []) IT=some GF:=by kernel_rfl
abbrev acy:=J [cy 2 9 0,aP 4 0] [1,2]
abbrev acH:=J [ai 9 2 2,an 10 9,I 11 1,bm 12 8 10 11,a0 13 8 12,cD 5 [ae,ae,ae,.str [],ae,cf,cf,cZ],bs 8 5 13] [1,2,5]
abbrev acP:=J [aP 4 12] [4]
abbrev acR:=am (J [ai 14 3 5,an 15 14,cV 16 xP [ad 15],cQ 17 16] [1,2,5,17]) (aJ 17 (am acP aR) aE)
abbrev acz:=J [aP 4 2] [4]
abbrev acA:=am (J [ai 18 0 5,an 19 18,bD 20 .lss 19 (-1),aS 21 20,au 21 (ai 22 2 5),au 21 (an 23 22),au 21 (bD 24 .lss 23 0),ck 25 21 24] [1,2,5,25]) (aJ 25 (am acz aR) aE)
abbrev acB:=J [aP 4 11] [4]
abbrev acC:=am (J [ai 26 1 5,an 27 26,cV 28 kc [ad 27,bW 0,bW 36524],cQ 29 28] [1,2,5,29]) (aJ 29 (am acB aR) aE)
abbrev acD:=J [aP 4 9] [4]
abbrev acE:=am (J [ai 30 4 5,an 31 30,bD 32 .lss 31 0,aS 33 32,au 33 (ai 34 4 5),au 33 (an 35 34),au 33 (ai 36 1 2),au 33 (an 37 36),au 33 (bE 38 37),au 33 (bz 39 .geq 35 38),ck 40 33 39] [1,2,5,40]) (aJ 40 (am acD aR) aE)
abbrev acF:=J [ai 41 7 5,an 42 41,ai 43 0 2,an 44 43,bE 45 44,bB 46 IK [ad 42,ad 45,bW 0,bW 3155932800],I 6 46] [1,2,5,6]
abbrev acG:=J [I 49 6,I 4 49] [4]
abbrev acI:=am (J [I 47 6,bD 48 .neq 47 0] [1,2,5,6,48]) (aJ 48 (am acG aR) aE)
abbrev acJ:=J [aP 7 0] [1,2,5,7]
abbrev acK:=am (J [I 50 7,I 51 1,bz 52 .lss 50 51] [1,2,5,7,52]) (aJ 52 aE (b5 0))
abbrev acL:=J [ai 55 2 2,an 56 55,I 57 7,bm 58 8 56 57,a0 59 8 58,cD 8 [ae,ae,ae,.str [],ae,cf,cf,cZ],bs 8 8 59] [1,2,5,7,8]
abbrev acM:=J [aP 4 6] [4]
abbrev acN:=am (J [ai 60 3 8,an 61 60,ai 62 3 5,an 63 62,bz 64 .eql 61 63,aS 65 64,aA 65 (ai 66 1 8),aA 65 (an 67 66),aA 65 (ai 68 1 5),aA 65 (an 69 68),aA 65 (bz 70 .eql 67 69),cX 71 65 70,aS 72 71,aA 72 (ai 73 2 8),aA 72 (an 74 73),aA 72 (ai 75 2 5),aA 72 (an 76 75),aA 72 (bz 77 .eql 74 76),cX 78 72 77] [1,2,5,7,78]) (aJ 78 (am acM aR) aE)
abbrev acO:=J [I 53 7,bo 54 .add 53 1,I 7 54] [1,2,5,7]
abbrev acQ:=J [aP 4 0] [4]
def GG:bu:=⟨79,[(.tmp 4)],cO acy acH acR (iZ acA acC acE acF acI (am acJ (bi 0 (cw [1,2,5,7] (ct acK (bi 1 (am acL acN)) acO)))) acQ aR)⟩
theorem aDr:bC av (bF av IU GG []) IU=some GG:=by kernel_rfl
abbrev acS:=J [cy 2 9 0,aP 4 0] [1,2]
abbrev ac2:=J [ai 12 3 2,an 13 12,I 14 1,bm 15 5 13 14,a0 16 5 15,cD 5 [ae,ae,ae,ae,cf],bs 5 5 16] [1,2,5]
abbrev ac8:=J [aP 4 9] [4]
abbrev adh:=am (J [ai 17 0 5,an 18 17,ai 19 2 2,an 20 19,bE 21 20,bo 22 .sub 21 1,cV 23 kc [ad 18,bW 0,ad 22],cQ 24 23,aS 25 24,au 25 (ai 26 2 5),au 25 (an 27 26),au 25 (ai 28 2 2),au 25 (an 29 28),au 25 (bE 30 29),au 25 (bo 31 .sub 30 1),au 25 (cV 32 kc [ad 27,bW 0,ad 31]),au 25 (cQ 33 32),ck 34 25 33,aS 35 34,au 35 (ai 36 0 5),au 35 (an 37 36),au 35 (ai 38 2 5),au 35 (an 39 38),au 35 (bz 40 .eql 37 39),ck 41 35 40] [1,2,5,41]) (aJ 41 (am ac8 aR) aE)
abbrev acT:=dq [ai 42 2 2,an 43 42,ai 44 0 5,an 45 44,bm 46 8 43 45,ai 47 7 46,an 48 47,ai 49 2 2,an 50 49,ai 51 2 5,an 52 51,bm 53 8 50 52,ai 54 7 53,an 55 54,I 6 48,I 7 55] [aa,aa,aa,aa,aa,aa,aa,aa,aa,aa,aa,aa,aa,aa,aa,aa] [1,2,5,6,7]
abbrev acU:=J [aP 4 9] [4]
abbrev acV:=am (J [ai 56 1 5,an 57 56,I 58 6,bE 59 58,bo 60 .sub 59 1,cV 61 kc [ad 57,bW 0,ad 60],cQ 62 61,aS 63 62,au 63 (ai 64 3 5),au 63 (an 65 64),au 63 (I 66 7),au 63 (bE 67 66),au 63 (bo 68 .sub 67 1),au 63 (cV 69 kc [ad 65,bW 0,ad 68]),au 63 (cQ 70 69),ck 71 63 70] [1,2,5,6,7,71]) (aJ 71 (am acU aR) aE)
abbrev acW:=J [aP 4 13] [4]
abbrev acX:=am (dq [I 72 6,ai 73 1 5,an 74 73,bm 75 5 72 74,ai 76 0 75,an 77 76,I 78 7,ai 79 3 5,an 80 79,bm 81 5 78 80,ai 82 0 81,an 83 82,bz 84 .neq 77 83] [aa,aa,aa,aa,aa,aa,aa,aa,aa,aa,aa,aa,aa] [1,2,5,6,84]) (aJ 84 (am acW aR) aE)
abbrev acY:=J [aP 4 19] [4]
abbrev acZ:=am (J [ai 85 4 5,fc 86 85,aS 87 86,aA 87 (ai 88 1 5),aA 87 (an 89 88),aA 87 (I 90 6),aA 87 (bE 91 90),aA 87 (bo 92 .sub 91 1),aA 87 (bz 93 .neq 89 92),aA 87 (aS 94 93),au 94 (ai 95 3 5),au 94 (an 96 95),au 94 (bD 97 .neq 96 0),aA 87 (ck 98 94 97),cX 99 87 98] [1,2,5,99]) (aJ 99 (am acY aR) aE)
abbrev ac0:=J [aP 8 0] [1,2,5,8]
abbrev ac1:=am (J [I 100 8,I 101 1,bz 102 .lss 100 101] [1,2,5,8,102]) (aJ 102 aE (b5 0))
abbrev ac3:=J [ai 105 3 2,an 106 105,I 107 8,bm 108 5 106 107,a0 109 5 108,cD 9 [ae,ae,ae,ae,cf],bs 5 9 109] [1,2,5,8,9]
abbrev ac4:=J [aP 4 19] [4]
abbrev ac5:=am (J [ai 110 4 5,fc 111 110,aS 112 111,aA 112 (ai 113 4 9),aA 112 (fc 114 113),cX 115 112 114,aS 116 115,aA 116 (ai 117 0 9),aA 116 (an 118 117),aA 116 (ai 119 0 5),aA 116 (an 120 119),aA 116 (bz 121 .eql 118 120),aA 116 (aS 122 121),au 122 (ai 123 2 9),au 122 (an 124 123),au 122 (ai 125 2 5),au 122 (an 126 125),au 122 (bz 127 .eql 124 126),aA 116 (ck 128 122 127),cX 129 116 128] [1,2,5,8,129]) (aJ 129 (am ac4 aR) aE)
abbrev ac6:=J [I 103 8,bo 104 .add 103 1,I 8 104] [1,2,5,8]
abbrev ac7:=J [aP 4 19] [4]
abbrev ac9:=am (J [ai 130 4 5,fc 131 130,aS 132 131,aA 132 (a0 133 9 2),aA 132 (I 134 1),aA 132 (ai 135 2 5),aA 132 (an 136 135),aA 132 (ai 137 0 5),aA 132 (an 138 137),aA 132 (cV 139 IQ [ad 133,ad 134,ad 136,ad 138]),cX 140 132 139] [1,2,5,140]) (aJ 140 (am ac7 aR) aE)
abbrev ac_:=J [aP 10 0] [1,2,5,10]
abbrev ada:=am (J [I 141 10,I 142 1,bz 143 .lss 141 142] [1,2,5,10,143]) (aJ 143 aE (b5 2))
abbrev adb:=J [ai 146 3 2,an 147 146,I 148 10,bm 149 5 147 148,a0 150 5 149,cD 11 [ae,ae,ae,ae,cf],bs 5 11 150] [1,2,5,10,11]
abbrev adc:=J [aP 4 6] [4]
abbrev ade:=am (J [ai 151 0 11,an 152 151,ai 153 0 5,an 154 153,bz 155 .eql 152 154,aS 156 155,aA 156 (ai 157 1 11),aA 156 (an 158 157),aA 156 (ai 159 1 5),aA 156 (an 160 159),aA 156 (bz 161 .eql 158 160),cX 162 156 161,aS 163 162,aA 163 (ai 164 2 11),aA 163 (an 165 164),aA 163 (ai 166 2 5),aA 163 (an 167 166),aA 163 (bz 168 .eql 165 167),cX 169 163 168,aS 170 169,aA 170 (ai 171 3 11),aA 170 (an 172 171),aA 170 (ai 173 3 5),aA 170 (an 174 173),aA 170 (bz 175 .eql 172 174),cX 176 170 175] [1,2,5,10,176]) (aJ 176 (am adc aR) aE)
abbrev adf:=J [I 144 10,bo 145 .add 144 1,I 10 145] [1,2,5,10]
abbrev adg:=J [aP 4 0] [4]
def GC:bu:=⟨177,[(.tmp 4)],f0 acS ac2 adh acT (iZ acV acX acZ (am ac0 (bi 0 (cw [1,2,5,8] (ct ac1 (bi 1 (am ac3 ac5)) ac6)))) ac9 (am ac_ (bi 2 (cw [1,2,5,10] (ct ada (bi 3 (am adb ade)) adf)))) adg aR)⟩
theorem aDo:bC av (bF av IR GC []) IR=some GC:=by kernel_rfl
abbrev adi:=J [cy 1 9 0,aP 2 0,aP 3 0] [1]
abbrev adr:=J [aP 4 0] [1,4]
abbrev adu:=am (J [I 10 4,ai 11 4 1,an 12 11,bE 13 12,bz 14 .lss 10 13] [1,4,14]) (aJ 14 aE (b5 0))
abbrev adD:=J [ai 17 4 1,an 18 17,I 19 4,bm 20 4 18 19,a0 21 4 20,cD 5 [ae,ae,ae,cf],bs 4 5 21] [1,4,5]
abbrev adF:=J [I 47 4,I 2 47,aP 3 9] [2,3]
abbrev adj:=am (J [ai 22 0 5,an 23 22,ai 24 0 1,an 25 24,bE 26 25,bo 27 .sub 26 1,cV 28 kc [ad 23,bW 0,ad 27],cQ 29 28,aS 30 29,au 30 (ai 31 1 5),au 30 (an 32 31),au 30 (ai 33 0 1),au 30 (an 34 33),au 30 (bE 35 34),au 30 (bo 36 .sub 35 1),au 30 (cV 37 kc [ad 32,bW 0,ad 36]),au 30 (cQ 38 37),ck 39 30 38,aS 40 39,au 40 (ai 41 0 5),au 40 (an 42 41),au 40 (ai 43 1 5),au 40 (an 44 43),au 40 (bz 45 .eql 42 44),ck 46 40 45] [1,4,5,46]) (aJ 46 (am adF aR) aE)
abbrev adk:=J [I 52 4,I 2 52,aP 3 2] [2,3]
abbrev adl:=am (J [ai 48 2 5,an 49 48,cV 50 kc [ad 49,bW 1,bW 14400],cQ 51 50] [1,4,5,51]) (aJ 51 (am adk aR) aE)
abbrev adm:=J [aP 6 0] [1,4,5,6]
abbrev adn:=am (J [I 53 6,I 54 4,bz 55 .lss 53 54] [1,4,5,6,55]) (aJ 55 aE (b5 2))
abbrev ado:=J [ai 58 4 1,an 59 58,I 60 6,bm 61 4 59 60,a0 62 4 61,cD 7 [ae,ae,ae,cf],bs 4 7 62] [1,4,5,6,7]
abbrev adp:=J [I 82 4,I 2 82,aP 3 6] [2,3]
abbrev adq:=am (J [ai 63 0 7,an 64 63,ai 65 0 5,an 66 65,bz 67 .eql 64 66,aS 68 67,aA 68 (ai 69 1 7),aA 68 (an 70 69),aA 68 (ai 71 1 5),aA 68 (an 72 71),aA 68 (bz 73 .eql 70 72),cX 74 68 73,aS 75 74,aA 75 (ai 76 3 7),aA 75 (fc 77 76),aA 75 (ai 78 3 5),aA 75 (fc 79 78),aA 75 (dW 80 (.bin .eql .bool (ad 77) (ad 79))),cX 81 75 80] [1,4,5,6,81]) (aJ 81 (am adp aR) aE)
abbrev ads:=J [I 56 6,bo 57 .add 56 1,I 6 57] [1,4,5,6]
abbrev adt:=J [I 15 4,bo 16 .add 15 1,I 4 16] [1,4]
abbrev adv:=J [ai 83 4 1,an 84 83,ai 85 0 1,an 86 85,bE 87 86,bB 88 IM [ad 84,ad 87],I 8 88] [1,8]
abbrev adw:=J [aP 2 0,aP 3 18] [2,3]
abbrev adx:=am (J [I 89 8,bE 90 89,ai 91 4 1,an 92 91,bE 93 92,bz 94 .neq 90 93] [1,8,94]) (aJ 94 (am adw aR) aE)
abbrev ady:=J [aP 9 0] [1,8,9]
abbrev adz:=am (J [I 95 9,I 96 8,bE 97 96,bz 98 .lss 95 97] [1,8,9,98]) (aJ 98 aE (b5 4))
abbrev adA:=J [aP 2 0,aP 3 18] [2,3]
abbrev adB:=am (dq [I 101 8,I 102 9,bm 103 4 101 102,a0 104 4 103,ai 105 4 1,an 106 105,I 107 9,bm 108 4 106 107,a0 109 4 108,dW 110 (.bin .neq (.cells [.int,.int,.int,.bool]) (ad 104) (ad 109))] [aa,aa,aa,aa,aa,aa,aa,aa,aa,aa] [1,8,9,110]) (aJ 110 (am adA aR) aE)
abbrev adC:=J [I 99 9,bo 100 .add 99 1,I 9 100] [1,8,9]
abbrev adE:=J [aP 2 0,aP 3 0] [2,3]
def GD:bu:=⟨111,[(.tmp 2),(.tmp 3)],tW adi (am adr (bi 0 (cw [1,4] (ct adu (bi 1 (f0 adD adj adl adm (bi 2 (cw [1,4,5,6] (ct adn (bi 3 (am ado adq)) ads))))) adt)))) adv adx (am ady (bi 4 (cw [1,8,9] (ct adz (bi 5 adB) adC)))) adE aR⟩
theorem aDp:bC av (bF av IS GD []) IS=some GD:=by kernel_rfl
abbrev adG:=J [cy 1 4 0,aP 2 0,aP 3 0] [1]
abbrev adQ:=J [aP 2 (-1),aP 3 2] [2,3]
abbrev adX:=am (J [ai 7 1 1,an 8 7,cV 9 kc [ad 8,bW 0,bW 1000000],cQ 10 9,aS 11 10,au 11 (ai 12 2 1),au 11 (an 13 12),au 11 (cV 14 kc [ad 13,bW 0,bW 86400]),au 11 (cQ 15 14),ck 16 11 15,aS 17 16,au 17 (ai 18 3 1),au 17 (an 19 18),au 17 (cV 20 kc [ad 19,bW 0,bW 1000000]),au 17 (cQ 21 20),ck 22 17 21] [1,22]) (aJ 22 (am adQ aR) aE)
abbrev adY:=J [aP 2 0,aP 3 5] [2,3]
abbrev adH:=am (J [ai 23 0 1,an 24 23,bE 25 24,bD 26 .gtr 25 16] [1,26]) (aJ 26 (am adY aR) aE)
abbrev adI:=J [aP 4 0] [1,4]
abbrev adJ:=am (J [I 27 4,ai 28 0 1,an 29 28,bE 30 29,bz 31 .lss 27 30] [1,4,31]) (aJ 31 aE (b5 0))
abbrev adK:=J [ai 34 0 1,an 35 34,I 36 4,bm 37 6 35 36,a0 38 6 37,cD 5 [.str [],ae,ae,ae,ae,ae],bs 6 5 38] [1,4,5]
abbrev adL:=J [I 43 4,I 2 43,aP 3 12] [2,3]
abbrev adM:=am (J [ai 39 0 5,an 40 39,cV 41 xP [ad 40],cQ 42 41] [1,4,5,42]) (aJ 42 (am adL aR) aE)
abbrev adN:=J [aP 6 0] [1,4,5,6]
abbrev adO:=am (J [I 44 6,I 45 4,bz 46 .lss 44 45] [1,4,5,6,46]) (aJ 46 aE (b5 2))
abbrev adP:=J [I 58 4,I 2 58,aP 3 6] [2,3]
abbrev adR:=am (dq [ai 49 0 1,an 50 49,I 51 6,bm 52 6 50 51,ai 53 0 52,an 54 53,ai 55 0 5,an 56 55,bz 57 .eql 54 56] [aa,aa,aa,aa,aa,aa,aa,aa,aa] [1,4,5,6,57]) (aJ 57 (am adP aR) aE)
abbrev adS:=J [I 47 6,bo 48 .add 47 1,I 6 48] [1,4,5,6]
abbrev adT:=J [I 87 4,I 2 87,aP 3 2] [2,3]
abbrev adU:=am (J [ai 59 1 5,an 60 59,cV 61 kc [ad 60,bW 0,bW 1000000],cQ 62 61,aS 63 62,au 63 (ai 64 2 5),au 63 (an 65 64),au 63 (cV 66 kc [ad 65,bW 1,bW 8]),au 63 (cQ 67 66),ck 68 63 67,aS 69 68,au 69 (ai 70 3 5),au 69 (an 71 70),au 69 (cV 72 kc [ad 71,bW 1,bW 16]),au 69 (cQ 73 72),ck 74 69 73,aS 75 74,au 75 (ai 76 4 5),au 75 (an 77 76),au 75 (cV 78 kc [ad 77,bW 0,bW 86400]),au 75 (cQ 79 78),ck 80 75 79,aS 81 80,au 81 (ai 82 5 5),au 81 (an 83 82),au 81 (cV 84 kc [ad 83,bW 1,bW 255]),au 81 (cQ 85 84),ck 86 81 85] [1,4,86]) (aJ 86 (am adT aR) aE)
abbrev adV:=J [I 32 4,bo 33 .add 32 1,I 4 33] [1,4]
abbrev adW:=J [aP 2 0,aP 3 0] [2,3]
def Gv:bu:=⟨88,[(.tmp 2),(.tmp 3)],iB adG adX adH (am adI (bi 0 (cw [1,4] (ct adJ (bi 1 (cO adK adM (am adN (bi 2 (cw [1,4,5,6] (ct adO (bi 3 adR) adS)))) adU)) adV)))) adW aR⟩
theorem aDh:bC av (bF av IN Gv []) IN=some Gv:=by kernel_rfl
abbrev agJ:=J [cn 2 cT] [0]
abbrev agQ:=J [cn 2 cT] [2]
abbrev agS:=am (J [I 6 0,a3 7 (.nE (ad 6)),bD 8 .lss 7 1,aS 9 8,au 9 (I 10 0),au 9 (a3 11 (.nE (ad 10))),au 9 (bD 12 .gtr 11 32),ck 13 9 12] [0,13]) (aJ 13 (am agQ aR) aE)
abbrev agT:=J [aP 3 0] [0,3]
abbrev agK:=am (J [I 14 3,I 15 0,a3 16 (.nE (ad 15)),bz 17 .lss 14 16] [0,3,17]) (aJ 17 aE (b5 0))
abbrev agL:=J [I 20 0,I 21 3,a3 22 (.pn (ad 20) (ad 21)),I 4 22] [0,3,4]
abbrev agM:=J [I 23 4,dW 24 (.bin .geq .none (ad 23) (.const (.int .u8 97))),aS 25 24,aA 25 (I 26 4),aA 25 (dW 27 (.bin .leq .none (ad 26) (.const (.int .u8 122)))),cX 28 25 27,aS 29 28,au 29 (I 30 4),au 29 (dW 31 (.bin .geq .none (ad 30) (.const (.int .u8 65)))),au 29 (aS 32 31),aA 32 (I 33 4),aA 32 (dW 34 (.bin .leq .none (ad 33) (.const (.int .u8 90)))),au 29 (cX 35 32 34),ck 36 29 35,aS 37 36,au 37 (I 38 4),au 37 (dW 39 (.bin .geq .none (ad 38) (.const (.int .u8 48)))),au 37 (aS 40 39),aA 40 (I 41 4),aA 40 (dW 42 (.bin .leq .none (ad 41) (.const (.int .u8 57)))),au 37 (cX 43 40 42),ck 44 37 43,aS 5 44] [0,3,4,5]
abbrev agN:=J [cn 2 cT] [2]
abbrev agO:=am (J [aS 45 5,cQ 46 45,aS 47 46,aA 47 (I 48 4),aA 47 (dW 49 (.bin .neq .none (ad 48) (.const (.int .u8 45)))),cX 50 47 49,aS 51 50,aA 51 (I 52 4),aA 51 (dW 53 (.bin .neq .none (ad 52) (.const (.int .u8 95)))),cX 54 51 53,aS 55 54,aA 55 (I 56 4),aA 55 (dW 57 (.bin .neq .none (ad 56) (.const (.int .u8 46)))),cX 58 55 57] [0,3,58]) (aJ 58 (am agN aR) aE)
abbrev agP:=J [I 18 3,bo 19 .add 18 1,I 3 19] [0,3]
abbrev agR:=J [cn 2 f5] [2]
def Gz:bu:=⟨59,[(.tmp 2)],f0 agJ agS (am agT (bi 0 (cw [0,3] (ct agK (bi 1 (ct agL agM agO)) agP)))) agR aR⟩
theorem aDk:bC av (bF av xP Gz []) xP=some Gz:=by kernel_rfl
abbrev agU:=J [cn 6 cT] [0,1,2]
abbrev agV:=J [I 7 0,I 8 1,bz 9 .geq 7 8,aS 10 9,aA 10 (I 11 0),aA 10 (I 12 2),aA 10 (bz 13 .leq 11 12),cX 14 10 13,aS 6 14] [6]
def GA:bu:=⟨15,[(.tmp 6)],ct agU agV aR⟩
theorem aDm:bC av (bF av kc GA []) kc=some GA:=by kernel_rfl
abbrev agW:=J [aP 8 0] [0,1,2,3]
abbrev ag5:=J [aP 8 5] [8]
abbrev ag8:=am (J [I 11 0,bE 12 11,bD 13 .lss 12 2,aS 14 13,au 14 (I 15 0),au 14 (bE 16 15),au 14 (bD 17 .gtr 16 32),ck 18 14 17] [0,1,2,3,18]) (aJ 18 (am ag5 aR) aE)
abbrev ag9:=J [aP 9 0] [0,1,2,3,9]
abbrev agX:=am (J [I 19 9,I 20 0,bE 21 20,bz 22 .lss 19 21] [0,1,2,3,9,22]) (aJ 22 aE (b5 0))
abbrev agY:=J [I 25 0,I 26 9,bm 27 5 25 26,a0 28 5 27,cD 10 [ae,ae,ae,cf,cf],bs 5 10 28] [0,1,2,3,9,10]
abbrev agZ:=J [aP 8 9] [8]
abbrev ag0:=am (J [ai 29 0 10,an 30 29,bD 31 .lss 30 0,aS 32 31,au 32 (ai 33 0 10),au 32 (an 34 33),au 32 (I 35 1),au 32 (bz 36 .geq 34 35),ck 37 32 36] [0,1,2,3,9,10,37]) (aJ 37 (am agZ aR) aE)
abbrev ag1:=J [aP 8 13] [8]
abbrev ag2:=am (dq [I 38 9,bD 39 .gtr 38 0,aS 40 39,aA 40 (I 41 0),aA 40 (I 42 9),aA 40 (bo 43 .sub 42 1),aA 40 (bm 44 5 41 43),aA 40 (ai 45 0 44),aA 40 (an 46 45),aA 40 (ai 47 0 10),aA 40 (an 48 47),aA 40 (bz 49 .eql 46 48),cX 50 40 49] [aa,aa,aa,aa,aa,aa,aa,aa,aa,aa,aa,aa,aa] [0,1,2,3,9,10,50]) (aJ 50 (am ag1 aR) aE)
abbrev ag3:=J [aP 8 10] [8]
abbrev ag4:=am (dq [ai 51 1 10,an 52 51,I 53 2,bz 54 .lss 52 53,aS 55 54,au 55 (ai 56 1 10),au 55 (an 57 56),au 55 (ai 58 2 10),au 55 (an 59 58),au 55 (bz 60 .gtr 57 59),ck 61 55 60,aS 62 61,au 62 (ai 63 2 10),au 62 (an 64 63),au 62 (I 65 3),au 62 (bz 66 .gtr 64 65),ck 67 62 66,aS 68 67,au 68 (I 69 9),au 68 (bD 70 .gtr 69 0),au 68 (aS 71 70),aA 71 (ai 72 1 10),aA 71 (an 73 72),aA 71 (I 74 0),aA 71 (I 75 9),aA 71 (bo 76 .sub 75 1),aA 71 (bm 77 5 74 76),aA 71 (ai 78 2 77),aA 71 (an 79 78),aA 71 (bz 80 .lss 73 79),au 68 (cX 81 71 80),ck 82 68 81] [aa,aa,aa,aa,aa,aa,aa,aa,aa,aa,aa,aa,aa,aa,aa,aa,aa,aa,aa,aa,aa,aa,aa,aa,aa,aa,aa,aa,aa,aa,aa,aa] [0,1,2,3,9,82]) (aJ 82 (am ag3 aR) aE)
abbrev ag6:=J [I 23 9,bo 24 .add 23 1,I 9 24] [0,1,2,3,9]
abbrev ag7:=J [aP 8 0] [8]
def Gs:bu:=⟨83,[(.tmp 8)],f0 agW ag8 (am ag9 (bi 0 (cw [0,1,2,3,9] (ct agX (bi 1 (cO agY ag0 ag2 ag4)) ag6)))) ag7 aR⟩
theorem aDe:bC av (bF av IK Gs []) IK=some Gs:=by kernel_rfl
abbrev ag_:=J [cy 4 9 0,cn 8 cT] [1,2,3,4]
abbrev ahg:=J [aP 9 0] [1,2,3,4,9]
abbrev ahk:=am (J [I 12 9,I 13 1,bz 14 .leq 12 13] [1,2,3,4,9,14]) (aJ 14 aE (b5 0))
abbrev ahl:=J [aP 10 (-1)] [1,2,3,4,9,10]
abbrev ahm:=J [aP 11 0] [1,2,3,4,9,10,11]
abbrev aha:=am (J [I 17 11,I 18 1,bz 19 .lss 17 18] [1,2,3,4,9,10,11,19]) (aJ 19 aE (b5 2))
abbrev ahb:=J [ai 38 3 4,an 39 38,I 40 11,bm 41 5 39 40,ai 42 2 41,an 43 42,I 10 43] [1,2,3,4,9,10,11]
abbrev ahc:=am (J [ai 22 3 4,an 23 22,I 24 11,bm 25 5 23 24,ai 26 4 25,fc 27 26,aS 28 27,aA 28 (ai 29 3 4),aA 28 (an 30 29),aA 28 (I 31 11),aA 28 (bm 32 5 30 31),aA 28 (ai 33 0 32),aA 28 (an 34 33),aA 28 (I 35 2),aA 28 (bz 36 .eql 34 35),cX 37 28 36] [1,2,3,4,9,10,11,37]) (aJ 37 ahb aE)
abbrev ahd:=J [I 20 11,bo 21 .add 20 1,I 11 21] [1,2,3,4,9,10,11]
abbrev ahe:=J [cn 8 f5] [8]
abbrev ahf:=am (J [I 44 10,I 45 3,bz 46 .eql 44 45] [1,3,4,9,10,46]) (aJ 46 (am ahe aR) aE)
abbrev ahh:=J [I 47 10,I 2 47] [1,2,3,4,9]
abbrev ahi:=J [I 15 9,bo 16 .add 15 1,I 9 16] [1,2,3,4,9]
abbrev ahj:=J [cn 8 cT] [8]
def GB:bu:=⟨48,[(.tmp 8)],cO ag_ (am ahg (bi 0 (cw [1,2,3,4,9] (ct ahk (bi 1 (cO ahl (am ahm (bi 2 (cw [1,2,3,4,9,10,11] (ct aha (bi 3 ahc) ahd)))) ahf ahh)) ahi)))) ahj aR⟩
theorem aDn:bC av (bF av IQ GB []) IQ=some GB:=by kernel_rfl
abbrev ahn:=J [eA 4 fT] [0,1]
abbrev ahv:=J [I 10 0,I 11 1,bB 12 DH [ad 10,ad 11,cT],I 13 0,I 14 1,bB 15 DH [ad 13,ad 14,f5],I 5 12,I 6 15] [1,5,6]
abbrev ahx:=J [a3 16 (.buildSlice [] 4 0 []),I 7 16] [1,5,6,7]
abbrev ahy:=J [aP 8 0] [1,5,6,7,8]
abbrev ahz:=am (J [I 17 8,I 18 1,bz 19 .lss 17 18] [1,5,6,7,8,19]) (aJ 19 aE (b5 0))
abbrev aho:=J [aP 9 0] [1,5,6,7,8,9]
abbrev ahp:=am (J [I 22 9,I 23 1,bz 24 .lss 22 23] [1,5,6,7,8,9,24]) (aJ 24 aE (b5 2))
abbrev ahq:=am (J [I 27 8,I 28 9,bz 29 .eql 27 28,aS 30 29,au 30 (I 31 5),au 30 (I 32 8),au 30 (bm 33 1 31 32),au 30 (an 34 33),au 30 (I 35 9),au 30 (bm 36 1 34 35),au 30 (an 37 36),au 30 (bD 38 .gtr 37 14400),ck 39 30 38] [1,5,6,7,8,9,39]) (aJ 39 (b5 3) aE)
abbrev ahr:=dq [I 40 7,I 41 8,I 42 9,I 43 5,I 44 8,bm 45 1 43 44,an 46 45,I 47 9,bm 48 1 46 47,an 49 48,I 50 6,I 51 8,bm 52 1 50 51,an 53 52,I 54 9,bm 55 1 53 54,an 56 55,I 57 5,I 58 8,bm 59 1 57 58,an 60 59,I 61 9,bm 62 1 60 61,an 63 62,bz 64 .eql 56 63,a3 65 (.build [ae,ae,ae,cf] [(0,(1,(ad 41))),(1,(1,(ad 42))),(2,(1,(ad 49))),(3,(1,(ad 64)))]),a3 66 (.buildSlice [ae,ae,ae,cf] 4 1 [(0,(4,(ad 65)))]),ib 67 4 32 40 66,I 7 67] [aa,aa,aa,aa,aa,aa,aa,aa,aa,aa,aa,aa,aa,aa,aa,aa,aa,aa,aa,aa,aa,aa,aa,aa,aa,aa,aa,fA,aa] [1,5,6,7,8,9]
abbrev ahs:=J [I 93 7,I 94 8,I 95 9,I 96 6,I 97 8,bm 98 1 96 97,an 99 98,I 100 9,bm 101 1 99 100,an 102 101,a3 103 (.build [ae,ae,ae,cf] [(0,(1,(ad 94))),(1,(1,(ad 95))),(2,(1,(ad 102))),(3,(1,(.const (.bool true))))]),a3 104 (.buildSlice [ae,ae,ae,cf] 4 1 [(0,(4,(ad 103)))]),ib 105 4 32 93 104,I 7 105] [1,5,6,7,8,9]
abbrev aht:=am (dq [I 68 6,I 69 8,bm 70 1 68 69,an 71 70,I 72 9,bm 73 1 71 72,an 74 73,I 75 5,I 76 8,bm 77 1 75 76,an 78 77,I 79 9,bm 80 1 78 79,an 81 80,bz 82 .gtr 74 81,aS 83 82,aA 83 (I 84 6),aA 83 (I 85 8),aA 83 (bm 86 1 84 85),aA 83 (an 87 86),aA 83 (I 88 9),aA 83 (bm 89 1 87 88),aA 83 (an 90 89),aA 83 (bD 91 .leq 90 14400),cX 92 83 91] [aa,aa,aa,aa,aa,aa,aa,aa,aa,aa,aa,aa,aa,aa,aa,aa,aa,aa,aa,aa,aa,aa,aa,aa,aa] [1,5,6,7,8,9,92]) (aJ 92 ahs aE)
abbrev ahu:=J [I 25 9,bo 26 .add 25 1,I 9 26] [1,5,6,7,8,9]
abbrev ahw:=J [I 20 8,bo 21 .add 20 1,I 8 21] [1,5,6,7,8]
abbrev P_:bc:=bf 41 (J [I 106 7,I 4 106] [4])
theorem aAS(P:Program)(Q:Exit->aH->Mem->Prop)(s:aH)(M:Mem):dv P P_ Q s M=@nh P [I 106 7,I 4 106] M ⟨s,fun aM ah=>Q .normal (gW aM [4]) ah⟩:=rfl
def Gu:bu:=⟨107,[(.tmp 4)],iB ahn ahv ahx (am ahy (bi 0 (cw [1,5,6,7,8] (ct ahz (bi 1 (am aho (bi 2 (cw [1,5,6,7,8,9] (ct ahp (bi 3 (ct ahq ahr aht)) ahu))))) ahw)))) P_ aR⟩
theorem aDg:bC av (bF av IM Gu []) IM=some Gu:=by kernel_rfl
abbrev ak1:=J [eA 6 fT] [0,1,2]
abbrev ak7:=J [a3 16 (.qS [] 0 []),I 7 16] [0,1,2,7]
abbrev ale:=J [aP 8 0] [0,1,2,7,8]
abbrev aln:=am (J [I 17 8,I 18 1,bz 19 .lss 17 18] [0,1,2,7,8,19]) (aJ 19 aE (b5 0))
abbrev alr:=J [a3 22 (.buildSlice [] 1 0 []),I 9 22] [0,1,2,7,8,9]
abbrev ak2:=J [aP 10 0] [0,1,2,7,8,9,10]
abbrev ak3:=am (J [I 23 10,I 24 1,bz 25 .lss 23 24] [0,1,2,7,8,9,10,25]) (aJ 25 aE (b5 2))
abbrev ak4:=J [I 28 9,a3 29 (.buildSlice [ae] 1 1 [(0,(1,(.const (.int .i64 1099511627776))))]),ib 30 1 8 28 29,I 9 30] [0,1,2,7,8,9,10]
abbrev ak5:=J [I 26 10,bo 27 .add 26 1,I 10 27] [0,1,2,7,8,9,10]
abbrev ak6:=J [I 31 7,I 32 9,a3 33 (.qS [cZ] 1 [(0,(1,(ad 32)))]),ib 34 1 24 31 33,I 7 34] [0,1,2,7,8]
abbrev ak8:=J [I 20 8,bo 21 .add 20 1,I 8 21] [0,1,2,7,8]
abbrev ak9:=J [aP 11 0] [0,1,2,7,11]
abbrev ak_:=am (J [I 35 11,I 36 0,bE 37 36,bz 38 .lss 35 37] [0,1,2,7,11,38]) (aJ 38 aE (b5 4))
abbrev ala:=J [I 41 0,I 42 11,bm 43 4 41 42,a0 44 4 43,cD 12 [ae,ae,ae,cf],bs 4 12 44] [0,1,2,7,11,12]
abbrev alb:=dq [I 51 7,ai 52 0 12,an 53 52,bm 54 1 51 53,an 55 54,ai 56 1 12,an 57 56,I 58 7,ai 59 0 12,an 60 59,bm 61 1 58 60,an 62 61,ai 63 1 12,an 64 63,bm 65 1 62 64,an 66 65,ai 67 2 12,an 68 67,a3 69 (.nI false (ad 66) (ad 68)),bm 70 1 55 57,bs 1 70 69] [aa,aa,aa,aa,aa,aa,aa,aa,aa,aa,aa,aa,aa,aa,aa,aa,aa,aa,aa,aa,fA] [0,1,2,7,11]
abbrev alc:=am (J [ai 45 3 12,fc 46 45,aS 47 46,au 47 (aS 48 2),au 47 (cQ 49 48),ck 50 47 49] [0,1,2,7,11,12,50]) (aJ 50 alb aE)
abbrev ald:=J [I 39 11,bo 40 .add 39 1,I 11 40] [0,1,2,7,11]
abbrev alf:=J [aP 13 0] [1,7,13]
abbrev alg:=am (J [I 71 13,I 72 1,bz 73 .lss 71 72] [1,7,13,73]) (aJ 73 aE (b5 6))
abbrev alh:=J [aP 14 0] [1,7,13,14]
abbrev ali:=am (J [I 76 14,I 77 1,bz 78 .lss 76 77] [1,7,13,14,78]) (aJ 78 aE (b5 8))
abbrev alj:=J [aP 15 0] [1,7,13,14,15]
abbrev alk:=am (J [I 81 15,I 82 1,bz 83 .lss 81 82] [1,7,13,14,15,83]) (aJ 83 aE (b5 10))
abbrev alm:=dq [I 86 7,I 87 14,bm 88 1 86 87,an 89 88,I 90 15,I 91 7,I 92 14,bm 93 1 91 92,an 94 93,I 95 15,bm 96 1 94 95,an 97 96,I 98 7,I 99 14,bm 100 1 98 99,an 101 100,I 102 13,bm 103 1 101 102,an 104 103,I 105 7,I 106 13,bm 107 1 105 106,an 108 107,I 109 15,bm 110 1 108 109,an 111 110,cc 112 .add 104 111,a3 113 (.nI false (ad 97) (ad 112)),bm 114 1 89 90,bs 1 114 113] [aa,aa,aa,aa,aa,aa,aa,aa,aa,aa,aa,aa,aa,aa,aa,aa,aa,aa,aa,aa,aa,aa,aa,aa,aa,aa,aa,aa,aa,fA] [1,7,13,14,15]
abbrev alo:=J [I 84 15,bo 85 .add 84 1,I 15 85] [1,7,13,14,15]
abbrev alp:=J [I 79 14,bo 80 .add 79 1,I 14 80] [1,7,13,14]
abbrev alq:=J [I 74 13,bo 75 .add 74 1,I 13 75] [1,7,13]
abbrev als:bc:=bf 94 (J [I 115 7,I 6 115] [6])
def Gw:bu:=⟨116,[(.tmp 6)],tW ak1 ak7 (am ale (bi 0 (cw [0,1,2,7,8] (ct aln (bi 1 (ct alr (am ak2 (bi 2 (cw [0,1,2,7,8,9,10] (ct ak3 (bi 3 ak4) ak5)))) ak6)) ak8)))) (am ak9 (bi 4 (cw [0,1,2,7,11] (ct ak_ (bi 5 (am ala alc)) ald)))) (am alf (bi 6 (cw [1,7,13] (ct alg (bi 7 (am alh (bi 8 (cw [1,7,13,14] (ct ali (bi 9 (am alj (bi 10 (cw [1,7,13,14,15] (ct alk (bi 11 alm) alo))))) alp))))) alq)))) als aR⟩
theorem aDi:bC av (bF av DH Gw [(1,[5000]),(10,[5002])]) DH=some Gw:=by kernel_rfl
end Go.aQ.C
namespace Go.aQ.C
open Go.aQ
abbrev asF:=J [cy 1 9 0,aP 2 0,aP 3 0,aP 4 0] [1]
abbrev asN:=J [ai 13 0 1,an 14 13,bB 15 IJ [ad 14],I 12 15,dr 16 12 0,dr 17 12 1,I 5 16,I 6 17] [1,5,6]
abbrev asO:=J [ai 19 1 1,an 20 19,bB 21 Ip [ad 20],I 18 21,dr 22 18 0,dr 23 18 1,I 7 22,I 8 23] [1,5,6,7,8]
abbrev asP:=J [I 24 5,I 25 6,bB 26 jP [bW 0,ad 24,ad 25],I 27 7,I 28 8,bB 29 jP [bW 1,ad 27,ad 28],a3 30 (.buildSlice [ae,ae,ae,ae,ae,ae] 3 2 [(0,(3,(ad 26))),(3,(3,(ad 29)))]),bB 31 zU [ad 30],cD 9 [ae,ae,ae],bs 3 9 31] [1,9]
abbrev asQ:=J [a0 35 9 1,bB 36 H9 [ad 35],bs 3 9 36] [1,9]
abbrev asG:=am (J [ai 32 2 9,an 33 32,bD 34 .eql 33 0] [1,9,34]) (aJ 34 asQ aE)
abbrev asH:=J [a0 40 9 1,bB 41 H7 [ad 40],bs 3 9 41] [1,9]
abbrev asI:=am (J [ai 37 2 9,an 38 37,bD 39 .eql 38 0] [1,9,39]) (aJ 39 asH aE)
abbrev asJ:=J [ai 46 5 1,a0 47 4 46,bB 48 zV [ad 47],I 45 48,dr 49 45 0,dr 50 45 1,I 10 49,I 11 50] [1,9,10,11]
abbrev asK:=J [a0 51 9 1,bB 52 H8 [ad 51],I 53 10,I 54 11,bB 55 jP [bW 5,ad 53,ad 54],a3 56 (.buildSlice [ae,ae,ae,ae,ae,ae] 3 2 [(0,(3,(ad 52))),(3,(3,(ad 55)))]),bB 57 zU [ad 56],bs 3 9 57] [9]
abbrev asL:=am (J [ai 42 2 9,an 43 42,bD 44 .eql 43 0] [1,9,44]) (aJ 44 (am asJ asK) aE)
abbrev asM:=dq [ai 58 0 9,an 59 58,ai 60 1 9,an 61 60,ai 62 2 9,an 63 62,I 2 59,I 3 61,I 4 63] [aa,aa,aa,aa,aa,aa,aa,aa,aa] [2,3,4]
def F1:bu:=⟨64,[(.tmp 2),(.tmp 3),(.tmp 4)],am asF (iZ asN asO asP asG asI asL asM aR)⟩
theorem aCH:bC av (bF av DA F1 []) DA=some F1:=by kernel_rfl
abbrev awL:=J [aP 2 0,aP 3 0] [0]
abbrev awU:=J [aP 2 0,aP 3 5] [2,3]
abbrev awZ:=am (J [I 7 0,bE 8 7,bD 9 .gtr 8 64] [0,9]) (aJ 9 (am awU aR) aE)
abbrev aw0:=J [a3 10 (.makeMap none),I 4 10] [0,4]
abbrev awM:=J [I 11 0,bE 12 11,aP 13 0] [4,11,12,13]
abbrev awN:=J [cc 14 .lss 13 12] [4,11,12,13,14]
abbrev awO:=J [I 15 13,bm 16 4 11 13,a0 17 4 16,cD 6 [.str [],ae,cf,ae],I 5 15,bs 4 6 17] [4,5,6,11,12,13]
abbrev awP:=J [I 23 5,I 2 23,aP 3 12] [2,3]
abbrev awQ:=J [I 29 5,I 2 29,aP 3 6] [2,3]
abbrev awR:=J [I 49 5,I 2 49,aP 3 2] [2,3]
abbrev awS:=am (J [ai 31 1 6,an 32 31,bD 33 .lss 32 0,aS 34 33,au 34 (ai 35 1 6),au 34 (an 36 35),au 34 (bD 37 .geq 36 16),ck 38 34 37,aS 39 38,au 39 (ai 40 3 6),au 39 (an 41 40),au 39 (bD 42 .lss 41 0),ck 43 39 42,aS 44 43,au 44 (ai 45 3 6),au 44 (an 46 45),au 44 (bD 47 .gtr 46 3600),ck 48 44 47,aS 30 48] [4,5,6,11,12,13,30]) (aJ 30 (am awR aR) aE)
abbrev awT:=am (J [I 25 4,ai 26 0 6,an 27 26,dW 28 (.lookup .str [cf] false false (ad 25) (ad 27)),aS 24 28] [4,5,6,11,12,13,24]) (aJ 24 (am awQ aR) awS)
abbrev awV:=am (J [ai 19 0 6,an 20 19,cV 21 xN [ad 20],cQ 22 21,aS 18 22] [4,5,6,11,12,13,18]) (aJ 18 (am awP aR) awT)
abbrev awW:=J [I 50 4,ai 51 0 6,an 52 51,lD (.mapUpdate .str (ad 50) (ad 52) f5)] [4,11,12,13]
abbrev awX:=J [bo 53 .add 13 1,I 13 53] [4,11,12,13]
abbrev awY:=J [aP 2 0,aP 3 0] [2,3]
def Gr:bu:=⟨54,[(.tmp 2),(.tmp 3)],iB awL awZ aw0 (am awM (bi 0 (cw [4,11,12,13] (cO awN (aJ 14 aE (b5 0)) (bi 1 (ct awO (bi 2 awV) awW)) awX)))) awY aR⟩
theorem aDd:bC av (bF av IJ Gr []) IJ=some Gr:=by kernel_rfl
abbrev aw1:=J [aP 2 0,aP 3 0] [0]
abbrev aw_:=J [aP 2 0,aP 3 5] [2,3]
abbrev axe:=am (J [I 7 0,bE 8 7,bD 9 .gtr 8 64] [0,9]) (aJ 9 (am aw_ aR) aE)
abbrev axf:=J [a3 10 (.makeMap none),I 4 10] [0,4]
abbrev aw2:=J [I 11 0,bE 12 11,aP 13 0] [4,11,12,13]
abbrev aw3:=J [cc 14 .lss 13 12] [4,11,12,13,14]
abbrev aw4:=J [I 15 13,bm 16 3 11 13,a0 17 3 16,cD 6 [.str [],ae,cf],I 5 15,bs 3 6 17] [4,5,6,11,12,13]
abbrev aw5:=J [I 22 5,I 2 22,aP 3 12] [2,3]
abbrev aw6:=am (J [ai 18 0 6,an 19 18,cV 20 xN [ad 19],cQ 21 20] [4,5,6,11,12,13,21]) (aJ 21 (am aw5 aR) aE)
abbrev aw7:=J [I 27 5,I 2 27,aP 3 6] [2,3]
abbrev aw8:=am (J [I 23 4,ai 24 0 6,an 25 24,dW 26 (.lookup .str [cf] false false (ad 23) (ad 25))] [4,5,6,11,12,13,26]) (aJ 26 (am aw7 aR) aE)
abbrev aw9:=J [I 32 5,I 2 32,aP 3 2] [2,3]
abbrev axa:=am (J [ai 28 1 6,an 29 28,cV 30 Iq [ad 29],cQ 31 30] [4,5,6,11,12,13,31]) (aJ 31 (am aw9 aR) aE)
abbrev axb:=J [I 33 4,ai 34 0 6,an 35 34,lD (.mapUpdate .str (ad 33) (ad 35) f5)] [4,11,12,13]
abbrev axc:=J [bo 36 .add 13 1,I 13 36] [4,11,12,13]
abbrev axd:=J [aP 2 0,aP 3 0] [2,3]
def F_:bu:=⟨37,[(.tmp 2),(.tmp 3)],iB aw1 axe axf (am aw2 (bi 0 (cw [4,11,12,13] (cO aw3 (aJ 14 aE (b5 0)) (bi 1 (f0 aw4 aw6 aw8 axa axb)) axc)))) axd aR⟩
theorem aCX:bC av (bF av Ip F_ []) Ip=some F_:=by kernel_rfl
abbrev axg:=J [cD 2 [ae,ae,ae]] [0,2]
abbrev axl:=J [I 5 0,bE 6 5,aP 7 0] [2,5,6,7]
abbrev axm:=J [cc 8 .lss 7 6] [2,5,6,7,8]
abbrev axn:=J [bm 9 3 5 7,a0 10 3 9,cD 4 [ae,ae,ae],bs 3 4 10] [2,4,5,6,7]
abbrev axh:=J [a0 14 3 4,bs 3 2 14] [2]
abbrev axi:=am (J [ai 11 2 4,an 12 11,bD 13 .neq 12 0] [2,4,5,6,7,13]) (aJ 13 (am axh aR) aE)
abbrev axj:=J [bo 15 .add 7 1,I 7 15] [2,5,6,7]
abbrev axk:=J [a3 16 (.build [ae,ae,ae] []),bs 3 2 16] [2]
def F6:bu:=⟨17,[(.cell 2 3 true)],cO axg (am axl (bi 0 (cw [2,5,6,7] (cO axm (aJ 8 aE (b5 0)) (bi 1 (am axn axi)) axj)))) axk aR⟩
theorem aCM:bC av (bF av zU F6 []) zU=some F6:=by kernel_rfl
abbrev axy:=J [cD 6 [ae,ae,ae]] [0,1,2,6]
abbrev axz:=J [I 7 0,I 8 1,I 9 2,a3 10 (.build [ae,ae,ae] [(0,(1,(ad 7))),(1,(1,(ad 8))),(2,(1,(ad 9)))]),bs 3 6 10] [6]
def F8:bu:=⟨11,[(.cell 6 3 true)],ct axy axz aR⟩
theorem aCV:bC av (bF av jP F8 []) jP=some F8:=by kernel_rfl
abbrev axA:=J [cy 1 9 0,cD 2 [ae,ae,ae]] [1,2]
abbrev axJ:=J [bB 13 jP [bW 2,bW 0,bW 5],bs 3 2 13] [2]
abbrev axU:=am (J [ai 9 2 1,an 10 9,bE 11 10,bD 12 .gtr 11 1024] [1,2,12]) (aJ 12 (am axJ aR) aE)
abbrev axX:=J [a3 14 (.makeMap none),I 3 14] [1,2,3]
abbrev axB:=J [ai 15 2 1,an 16 15,bE 17 16,aP 18 0] [1,2,3,16,17,18]
abbrev axC:=J [cc 19 .lss 18 17] [1,2,3,16,17,18,19]
abbrev axD:=J [I 20 18,bm 21 8 16 18,a0 22 8 21,cD 5 [ae,ae,ae,.str [],ae,cf,cf,cZ],I 4 20,bs 8 5 22] [1,2,3,4,5,16,17,18]
abbrev axE:=J [I 28 4,bB 29 jP [bW 2,ad 28,bW 12],bs 3 2 29] [2]
abbrev axF:=J [I 39 4,bB 40 jP [bW 2,ad 39,bW 2],bs 3 2 40] [2]
abbrev axG:=J [I 50 4,bB 51 jP [bW 2,ad 50,bW 11],bs 3 2 51] [2]
abbrev axH:=J [I 64 4,bB 65 jP [bW 2,ad 64,bW 9],bs 3 2 65] [2]
abbrev axI:=am (J [ai 53 4 5,an 54 53,bD 55 .lss 54 0,aS 56 55,au 56 (ai 57 4 5),au 56 (an 58 57),au 56 (ai 59 1 1),au 56 (an 60 59),au 56 (bE 61 60),au 56 (bz 62 .geq 58 61),ck 63 56 62,aS 52 63] [1,2,3,4,5,16,17,18,52]) (aJ 52 (am axH aR) aE)
abbrev axK:=am (J [ai 42 1 5,an 43 42,bD 44 .lss 43 0,aS 45 44,au 45 (ai 46 1 5),au 45 (an 47 46),au 45 (bD 48 .gtr 47 36524),ck 49 45 48,aS 41 49] [1,2,3,4,5,16,17,18,41]) (aJ 41 (am axG aR) axI)
abbrev axL:=am (J [ai 31 0 5,an 32 31,bD 33 .lss 32 (-1),aS 34 33,au 34 (ai 35 2 5),au 34 (an 36 35),au 34 (bD 37 .lss 36 0),ck 38 34 37,aS 30 38] [1,2,3,4,5,16,17,18,30]) (aJ 30 (am axF aR) axK)
abbrev axM:=am (J [ai 24 3 5,an 25 24,cV 26 xN [ad 25],cQ 27 26,aS 23 27] [1,2,3,4,5,16,17,18,23]) (aJ 23 (am axE aR) axL)
abbrev axN:=J [ai 67 7 5,an 68 67,ai 69 0 1,an 70 69,bE 71 70,bB 72 Hy [ad 68,ad 71,bW 0,bW 3155932800],I 66 72,dr 73 66 0,dr 74 66 1,I 6 73,I 7 74] [1,2,3,4,5,7,16,17,18]
abbrev axO:=J [I 77 4,I 78 7,bB 79 jP [bW 2,ad 77,ad 78],bs 3 2 79] [2]
abbrev axP:=am (J [I 75 7,bD 76 .neq 75 0] [1,2,3,4,5,7,16,17,18,76]) (aJ 76 (am axO aR) aE)
abbrev axQ:=J [ai 80 3 5,an 81 80,ai 82 1 5,an 83 82,ai 84 2 5,an 85 84,a3 86 (.build [.str [],ae,ae] [(0,(1,(ad 81))),(1,(1,(ad 83))),(2,(1,(ad 85)))]),cD 8 [.str [],ae,ae],bs 3 8 86] [1,2,3,4,8,16,17,18]
abbrev axR:=J [I 90 4,bB 91 jP [bW 2,ad 90,bW 6],bs 3 2 91] [2]
abbrev axS:=am (J [I 87 3,a0 88 3 8,dW 89 (.lookup (.cells [.str,.int,.int]) [cf] false false (ad 87) (ad 88))] [1,2,3,4,8,16,17,18,89]) (aJ 89 (am axR aR) aE)
abbrev axT:=J [I 92 3,a0 93 3 8,lD (.mapUpdate (.cells [.str,.int,.int]) (ad 92) (ad 93) f5)] [1,2,3,16,17,18]
abbrev axV:=J [bo 94 .add 18 1,I 18 94] [1,2,3,16,17,18]
abbrev axW:=J [a3 95 (.build [ae,ae,ae] []),bs 3 2 95] [2]
def F5:bu:=⟨96,[(.cell 2 3 true)],iB axA axU axX (am axB (bi 0 (cw [1,2,3,16,17,18] (cO axC (aJ 19 aE (b5 0)) (bi 1 (iB axD (bi 2 axM) (am axN axP) axQ axS axT)) axV)))) axW aR⟩
theorem aCL:bC av (bF av H9 F5 []) H9=some F5:=by kernel_rfl
abbrev axY:=J [cy 1 9 0,cD 2 [ae,ae,ae]] [1,2]
abbrev ax8:=J [bB 17 jP [bW 3,bW 0,bW 5],bs 3 2 17] [2]
abbrev ayj:=am (J [ai 13 3 1,an 14 13,bE 15 14,bD 16 .gtr 15 1024] [1,2,16]) (aJ 16 (am ax8 aR) aE)
abbrev aym:=J [a3 18 (.makeMap none),a3 19 (.makeMap none),I 3 18,I 4 19] [1,2,3,4]
abbrev axZ:=J [a3 20 (.makeMap none),I 5 20] [1,2,3,4,5]
abbrev ax0:=J [ai 21 3 1,an 22 21,bE 23 22,aP 24 0] [1,2,3,4,5,22,23,24]
abbrev ax1:=J [cc 25 .lss 24 23] [1,2,3,4,5,22,23,24,25]
abbrev ax2:=J [I 26 24,bm 27 5 22 24,a0 28 5 27,cD 7 [ae,ae,ae,ae,cf],I 6 26,bs 5 7 28] [1,2,3,4,5,6,7,22,23,24]
abbrev ax3:=J [I 52 6,bB 53 jP [bW 3,ad 52,bW 9],bs 3 2 53] [2]
abbrev ax4:=am (J [ai 29 0 7,an 30 29,ai 31 2 1,an 32 31,bE 33 32,cV 34 tS [ad 30,ad 33],cQ 35 34,aS 36 35,au 36 (ai 37 2 7),au 36 (an 38 37),au 36 (ai 39 2 1),au 36 (an 40 39),au 36 (bE 41 40),au 36 (cV 42 tS [ad 38,ad 41]),au 36 (cQ 43 42),ck 44 36 43,aS 45 44,au 45 (ai 46 0 7),au 45 (an 47 46),au 45 (ai 48 2 7),au 45 (an 49 48),au 45 (bz 50 .eql 47 49),ck 51 45 50] [1,2,3,4,5,6,7,22,23,24,51]) (aJ 51 (am ax3 aR) aE)
abbrev ax5:=dq [ai 54 2 1,an 55 54,ai 56 0 7,an 57 56,bm 58 8 55 57,ai 59 7 58,an 60 59,ai 61 2 1,an 62 61,ai 63 2 7,an 64 63,bm 65 8 62 64,ai 66 7 65,an 67 66,I 8 60,I 9 67] [aa,aa,aa,aa,aa,aa,aa,aa,aa,aa,aa,aa,aa,aa,aa,aa] [1,2,3,4,5,6,7,8,9,22,23,24]
abbrev ax6:=J [I 82 6,bB 83 jP [bW 3,ad 82,bW 9],bs 3 2 83] [2]
abbrev ax7:=am (J [ai 68 1 7,an 69 68,I 70 8,bE 71 70,cV 72 tS [ad 69,ad 71],cQ 73 72,aS 74 73,au 74 (ai 75 3 7),au 74 (an 76 75),au 74 (I 77 9),au 74 (bE 78 77),au 74 (cV 79 tS [ad 76,ad 78]),au 74 (cQ 80 79),ck 81 74 80] [1,2,3,4,5,6,7,8,9,22,23,24,81]) (aJ 81 (am ax6 aR) aE)
abbrev ax9:=J [ai 84 0 7,an 85 84,ai 86 1 7,an 87 86,ai 88 2 7,an 89 88,ai 90 3 7,an 91 90,a3 92 (.build [ae,ae,ae,ae] [(0,(1,(ad 85))),(1,(1,(ad 87))),(2,(1,(ad 89))),(3,(1,(ad 91)))]),cD 10 [ae,ae,ae,ae],bs 4 10 92] [1,2,3,4,5,6,7,8,9,10,22,23,24]
abbrev ax_:=J [I 94 3,ai 95 0 7,an 96 95,a3 97 (.lookup .int [ae] false true (ad 94) (ad 96)),I 93 97,dr 98 93 0,rA 99 93 1,I 11 98,aS 12 99] [1,2,3,4,5,6,7,8,9,10,12,22,23,24]
abbrev aya:=J [I 114 6,bB 115 jP [bW 3,ad 114,bW 13],bs 3 2 115] [2]
abbrev ayb:=J [I 149 6,bB 150 jP [bW 3,ad 149,bW 19],bs 3 2 150] [2]
abbrev ayc:=J [I 155 6,bB 156 jP [bW 3,ad 155,bW 6],bs 3 2 156] [2]
abbrev ayd:=am (J [I 152 5,a0 153 4 10,dW 154 (.lookup (.cells [.int,.int,.int,.int]) [cf] false false (ad 152) (ad 153)),aS 151 154] [1,2,3,4,5,6,7,10,22,23,24,151]) (aJ 151 (am ayc aR) aE)
abbrev aye:=am (J [ai 117 4 7,fc 118 117,aS 119 118,aA 119 (ai 120 1 7),aA 119 (an 121 120),aA 119 (bo 122 .add 121 1),aA 119 (I 123 8),aA 119 (bE 124 123),aA 119 (bz 125 .neq 122 124),aA 119 (aS 126 125),au 126 (ai 127 3 7),au 126 (an 128 127),au 126 (bD 129 .neq 128 0),aA 119 (ck 130 126 129),aA 119 (aS 131 130),au 131 (aS 132 12),aA 119 (ck 133 131 132),aA 119 (aS 134 133),au 134 (I 135 4),au 134 (ai 136 2 7),au 134 (an 137 136),au 134 (dW 138 (.lookup .int [cf] false false (ad 135) (ad 137))),aA 119 (ck 139 134 138),aA 119 (aS 140 139),au 140 (I 141 3),au 140 (ai 142 2 7),au 140 (an 143 142),au 140 (ai 144 0 7),au 140 (an 145 144),au 140 (cV 146 Ih [ad 141,ad 143,ad 145]),aA 119 (ck 147 140 146),cX 148 119 147,aS 116 148] [1,2,3,4,5,6,7,10,22,23,24,116]) (aJ 116 (am ayb aR) ayd)
abbrev ayf:=am (dq [I 101 8,ai 102 1 7,an 103 102,bm 104 5 101 103,ai 105 0 104,an 106 105,I 107 9,ai 108 3 7,an 109 108,bm 110 5 107 109,ai 111 0 110,an 112 111,bz 113 .neq 106 112,aS 100 113] [aa,aa,aa,aa,aa,aa,aa,aa,aa,aa,aa,aa,aa,aa] [1,2,3,4,5,6,7,8,10,12,22,23,24,100]) (aJ 100 (am aya aR) aye)
abbrev ayg:=J [I 157 5,a0 158 4 10,lD (.mapUpdate (.cells [.int,.int,.int,.int]) (ad 157) (ad 158) f5)] [1,2,3,4,5,7,22,23,24]
abbrev ayh:bc:=.float [I 161 3,ai 162 0 7,an 163 162,I 164 4,ai 165 2 7,an 166 165,ai 167 2 7,an 168 167,lD (.mapUpdate .int (ad 161) (ad 163) (ad 168)),lD (.mapUpdate .int (ad 164) (ad 166) f5)] [none,none,none,none,none,none,none,none,(some [3,4,5]),(some [])] [1,2,3,4,5,22,23,24]
abbrev ayi:=am (J [ai 159 4 7,fc 160 159] [1,2,3,4,5,7,22,23,24,160]) (aJ 160 ayh aE)
abbrev ayk:=J [bo 169 .add 24 1,I 24 169] [1,2,3,4,5,22,23,24]
abbrev ayl:=J [a3 170 (.build [ae,ae,ae] []),bs 3 2 170] [2]
def F3:bu:=⟨171,[(.cell 2 3 true)],tW axY ayj aym axZ (am ax0 (bi 0 (cw [1,2,3,4,5,22,23,24] (cO ax1 (aJ 25 aE (b5 0)) (bi 1 (am ax2 (iZ ax4 ax5 ax7 ax9 ax_ (bi 2 ayf) ayg ayi))) ayk)))) ayl aR⟩
theorem aCJ:bC av (bF av H7 F3 []) H7=some F3:=by kernel_rfl
abbrev ayn:=J [cy 1 9 0,cD 2 [ae,ae,ae]] [1,2]
abbrev ayw:=J [a3 7 (.makeMap none),I 3 7] [1,2,3]
abbrev ayC:=J [ai 8 4 1,an 9 8,bE 10 9,aP 11 0] [1,2,3,9,10,11]
abbrev ayD:=J [cc 12 .lss 11 10] [1,2,3,9,10,11,12]
abbrev ayo:=J [I 13 11,bm 14 4 9 11,a0 15 4 14,cD 5 [ae,ae,ae,cf],I 4 13,bs 4 5 15] [1,2,3,4,5,9,10,11]
abbrev ayp:=J [ai 16 0 5,an 17 16,ai 18 1 5,an 19 18,ai 20 3 5,fc 21 20,a3 22 (.build [ae,ae,ae,cf] [(0,(1,(ad 17))),(1,(1,(ad 19))),(3,(1,(ad 21)))]),cD 6 [ae,ae,ae,cf],bs 4 6 22] [1,2,3,4,5,6,9,10,11]
abbrev ayq:=J [I 47 4,bB 48 jP [bW 4,ad 47,bW 9],bs 3 2 48] [2]
abbrev ayr:=J [I 58 4,bB 59 jP [bW 4,ad 58,bW 2],bs 3 2 59] [2]
abbrev ays:=J [I 64 4,bB 65 jP [bW 4,ad 64,bW 6],bs 3 2 65] [2]
abbrev ayt:=am (J [I 61 3,a0 62 4 6,dW 63 (.lookup (.cells [.int,.int,.int,.bool]) [cf] false false (ad 61) (ad 62)),aS 60 63] [1,2,3,4,6,9,10,11,60]) (aJ 60 (am ays aR) aE)
abbrev ayu:=am (J [ai 50 2 5,an 51 50,bD 52 .lss 51 1,aS 53 52,au 53 (ai 54 2 5),au 53 (an 55 54),au 53 (bD 56 .gtr 55 14400),ck 57 53 56,aS 49 57] [1,2,3,4,6,9,10,11,49]) (aJ 49 (am ayr aR) ayt)
abbrev ayv:=am (J [ai 24 0 5,an 25 24,ai 26 0 1,an 27 26,bE 28 27,cV 29 tS [ad 25,ad 28],cQ 30 29,aS 31 30,au 31 (ai 32 1 5),au 31 (an 33 32),au 31 (ai 34 0 1),au 31 (an 35 34),au 31 (bE 36 35),au 31 (cV 37 tS [ad 33,ad 36]),au 31 (cQ 38 37),ck 39 31 38,aS 40 39,au 40 (ai 41 0 5),au 40 (an 42 41),au 40 (ai 43 1 5),au 40 (an 44 43),au 40 (bz 45 .eql 42 44),ck 46 40 45,aS 23 46] [1,2,3,4,5,6,9,10,11,23]) (aJ 23 (am ayq aR) ayu)
abbrev ayx:=J [I 66 3,a0 67 4 6,lD (.mapUpdate (.cells [.int,.int,.int,.bool]) (ad 66) (ad 67) f5)] [1,2,3,9,10,11]
abbrev ayy:=J [bo 68 .add 11 1,I 11 68] [1,2,3,9,10,11]
abbrev ayz:=J [bB 76 jP [bW 4,bW 0,bW 18],bs 3 2 76] [2]
abbrev ayA:=am (J [ai 69 4 1,an 70 69,ai 71 0 1,an 72 71,bE 73 72,cV 74 HR [ad 70,ad 73],cQ 75 74] [2,75]) (aJ 75 (am ayz aR) aE)
abbrev ayB:=J [a3 77 (.build [ae,ae,ae] []),bs 3 2 77] [2]
def F4:bu:=⟨78,[(.cell 2 3 true)],iB ayn ayw (am ayC (bi 0 (cw [1,2,3,9,10,11] (cO ayD (aJ 12 aE (b5 0)) (bi 1 (cO ayo ayp (bi 2 ayv) ayx)) ayy)))) ayA ayB aR⟩
theorem aCK:bC av (bF av H8 F4 []) H8=some F4:=by kernel_rfl
abbrev ay3:=J [cn 2 cT] [0]
abbrev ay_:=J [aP 3 0] [0,3]
abbrev azc:=am (J [I 5 3,I 6 0,a3 7 (.nE (ad 6)),bz 8 .lss 5 7] [0,3,8]) (aJ 8 aE (b5 0))
abbrev azd:=J [I 11 0,I 12 3,a3 13 (.pn (ad 11) (ad 12)),I 4 13] [0,3,4]
abbrev aze:=J [I 27 4,dW 28 (.bin .leq .none (.const (.int .u8 48)) (ad 27)),aS 29 28,aA 29 (I 30 4),aA 29 (dW 31 (.bin .leq .none (ad 30) (.const (.int .u8 57)))),cX 32 29 31,aS 14 32] [0,3,4,14]
abbrev ay4:=am (J [I 21 4,dW 22 (.bin .leq .none (.const (.int .u8 65)) (ad 21)),aS 23 22,aA 23 (I 24 4),aA 23 (dW 25 (.bin .leq .none (ad 24) (.const (.int .u8 90)))),cX 26 23 25,aS 14 26] [0,3,4,14]) (aJ 14 aE aze)
abbrev ay5:=am (J [I 15 4,dW 16 (.bin .leq .none (.const (.int .u8 97)) (ad 15)),aS 17 16,aA 17 (I 18 4),aA 17 (dW 19 (.bin .leq .none (ad 18) (.const (.int .u8 122)))),cX 20 17 19,aS 14 20] [0,3,4,14]) (aJ 14 aE ay4)
abbrev ay6:=J [I 38 4,dW 39 (.bin .eql .none (ad 38) (.const (.int .u8 46))),aS 33 39] [0,3,33]
abbrev ay7:=am (J [I 36 4,dW 37 (.bin .eql .none (ad 36) (.const (.int .u8 95))),aS 33 37] [0,3,4,33]) (aJ 33 aE ay6)
abbrev ay8:=am (J [I 34 4,dW 35 (.bin .eql .none (ad 34) (.const (.int .u8 45))),aS 33 35] [0,3,4,33]) (aJ 33 aE ay7)
abbrev ay9:=J [cn 2 cT] [2]
abbrev aza:=J [I 9 3,bo 10 .add 9 1,I 3 10] [0,3]
abbrev azb:=J [I 40 0,a3 41 (.nE (ad 40)),bD 42 .gtr 41 0,aS 43 42,aA 43 (I 44 0),aA 43 (a3 45 (.nE (ad 44))),aA 43 (bD 46 .leq 45 32),cX 47 43 46,aS 2 47] [2]
def BS:bu:=⟨48,[(.tmp 2)],cO ay3 (am ay_ (bi 0 (cw [0,3] (ct azc (bi 1 (am azd (bi 2 (am ay5 (aJ 14 aE (am ay8 (aJ 33 aE (am ay9 aR)))))))) aza)))) azb aR⟩
theorem R5:bC av (bF av xN BS []) xN=some BS:=by kernel_rfl
abbrev afY:=J [cn 2 cT] [0]
abbrev afZ:=J [I 3 0,bD 4 .geq 3 0,aS 5 4,aA 5 (I 6 0),aA 5 (bD 7 .lss 6 8),cX 8 5 7,aS 2 8] [2]
def Ga:bu:=⟨9,[(.tmp 2)],ct afY afZ aR⟩
theorem aCY:bC av (bF av Iq Ga []) Iq=some Ga:=by kernel_rfl
abbrev af0:=J [aP 8 0,aP 9 0] [0,1,2,3]
abbrev af7:=J [aP 8 0,aP 9 5] [8,9]
abbrev af9:=am (J [I 12 0,bE 13 12,bD 14 .lss 13 2,aS 15 14,au 15 (I 16 0),au 15 (bE 17 16),au 15 (bD 18 .gtr 17 32),ck 19 15 18] [0,1,2,3,19]) (aJ 19 (am af7 aR) aE)
abbrev af_:=J [I 20 0,bE 21 20,aP 22 0] [0,1,2,3,21,22]
abbrev af1:=J [cc 23 .lss 22 21] [0,1,2,3,21,22,23]
abbrev af2:=J [I 24 22,I 10 24] [0,1,2,3,10,21,22]
abbrev af3:=J [I 25 0,I 26 10,I 27 1,I 28 2,I 29 3,bB 30 Hz [ad 25,ad 26,ad 27,ad 28,ad 29],I 11 30] [0,1,2,3,10,11,21,22]
abbrev af4:=J [I 33 10,I 34 11,I 8 33,I 9 34] [8,9]
abbrev af5:=am (J [I 31 11,bD 32 .neq 31 0] [0,1,2,3,10,11,21,22,32]) (aJ 32 (am af4 aR) aE)
abbrev af6:=J [bo 35 .add 22 1,I 22 35] [0,1,2,3,21,22]
abbrev af8:=J [aP 8 0,aP 9 0] [8,9]
def Fv:bu:=⟨36,[(.tmp 8),(.tmp 9)],f0 af0 af9 (am af_ (bi 0 (cw [0,1,2,3,21,22] (cO af1 (aJ 23 aE (b5 0)) (bi 1 (ct af2 af3 af5)) af6)))) af8 aR⟩
theorem aCb:bC av (bF av Hy Fv []) Hy=some Fv:=by kernel_rfl
abbrev aga:=J [cn 4 cT] [0,1]
abbrev agb:=J [I 5 0,bD 6 .geq 5 0,aS 7 6,aA 7 (I 8 0),aA 7 (I 9 1),aA 7 (bz 10 .lss 8 9),cX 11 7 10,aS 4 11] [4]
def F9:bu:=⟨12,[(.tmp 4)],ct aga agb aR⟩
theorem aCW:bC av (bF av tS F9 []) tS=some F9:=by kernel_rfl
abbrev agc:=J [cn 6 cT] [0,1,2]
abbrev agh:=J [I 10 0,I 11 1,a3 12 (.lookup .int [ae] false true (ad 10) (ad 11)),I 9 12,dr 13 9 0,rA 14 9 1,I 7 13,aS 8 14] [0,2,7,8]
abbrev agi:=am (J [aS 15 8] [0,2,7,15]) (aJ 15 aE (b5 0))
abbrev agj:=J [cn 6 f5] [6]
abbrev agd:=am (J [I 22 7,I 23 2,bz 24 .eql 22 23] [0,2,7,24]) (aJ 24 (am agj aR) aE)
abbrev age:=J [I 17 0,I 18 7,a3 19 (.lookup .int [ae] false true (ad 17) (ad 18)),I 16 19,dr 20 16 0,rA 21 16 1,I 7 20,aS 8 21] [0,2,7,8]
abbrev agf:=J [cn 6 cT] [6]
def F7:bu:=⟨25,[(.tmp 6)],cO agc (am agh (bi 0 (cw [0,2,7,8] (ct agi (bi 1 agd) age)))) agf aR⟩
theorem aCU:bC av (bF av Ih F7 []) Ih=some F7:=by kernel_rfl
abbrev agm:=J [cn 4 cT] [0,1]
abbrev agv:=J [cn 4 cT] [4]
abbrev agA:=am (J [I 9 1,bD 10 .gtr 9 64] [0,1,10]) (aJ 10 (am agv aR) aE)
abbrev agB:=J [I 12 0,I 13 1,bB 14 HT [ad 12,ad 13],I 11 14,dr 15 11 0,dr 16 11 1,I 5 15,I 6 16] [0,1,6]
abbrev agn:=J [cn 4 cT] [4]
abbrev ago:=am (J [I 17 6,bD 18 .neq 17 0] [0,1,18]) (aJ 18 (am agn aR) aE)
abbrev agp:=J [I 19 0,I 20 1,a3 21 (.nI true (ad 20) (bW 0)),bB 22 HS [ad 19,ad 21],I 7 22] [0,7]
abbrev agq:=J [cn 4 cT] [4]
abbrev agr:=am (J [I 23 7,bE 24 23,I 25 0,bE 26 25,bz 27 .neq 24 26] [0,7,27]) (aJ 27 (am agq aR) aE)
abbrev ags:=J [I 28 7,bE 29 28,aP 30 0] [0,7,29,30]
abbrev agt:=J [cc 31 .lss 30 29] [0,7,29,30,31]
abbrev agu:=J [I 32 30,I 8 32] [0,7,8,29,30]
abbrev agw:=J [cn 4 cT] [4]
abbrev agx:=am (dq [I 33 7,I 34 8,bm 35 4 33 34,a0 36 4 35,I 37 0,I 38 8,bm 39 4 37 38,a0 40 4 39,dW 41 (.bin .neq (.cells [.int,.int,.int,.bool]) (ad 36) (ad 40))] [aa,aa,aa,aa,aa,aa,aa,aa,aa] [0,7,29,30,41]) (aJ 41 (am agw aR) aE)
abbrev agy:=J [bo 42 .add 30 1,I 30 42] [0,7,29,30]
abbrev agz:=J [cn 4 f5] [4]
def FO:bu:=⟨43,[(.tmp 4)],iZ agm agA (am agB ago) agp agr (am ags (bi 0 (cw [0,7,29,30] (cO agt (aJ 31 aE (b5 0)) (bi 1 (am agu agx)) agy)))) agz aR⟩
theorem aCu:bC av (bF av HR FO []) HR=some FO:=by kernel_rfl
abbrev ajL:=J [aP 10 0] [0,1,2,3,4]
abbrev ajR:=J [I 12 0,I 13 1,bm 14 5 12 13,a0 15 5 14,cD 11 [ae,ae,ae,cf,cf],bs 5 11 15] [0,1,2,3,4,11]
abbrev ajS:=J [aP 10 9] [10]
abbrev ajT:=am (J [ai 16 0 11,an 17 16,bD 18 .lss 17 0,aS 19 18,au 19 (ai 20 0 11),au 19 (an 21 20),au 19 (I 22 2),au 19 (bz 23 .geq 21 22),ck 24 19 23] [0,1,3,4,11,24]) (aJ 24 (am ajS aR) aE)
abbrev ajM:=J [aP 10 13] [10]
abbrev ajN:=am (dq [I 25 1,bD 26 .gtr 25 0,aS 27 26,aA 27 (I 28 0),aA 27 (I 29 1),aA 27 (bo 30 .sub 29 1),aA 27 (bm 31 5 28 30),aA 27 (ai 32 0 31),aA 27 (an 33 32),aA 27 (ai 34 0 11),aA 27 (an 35 34),aA 27 (bz 36 .eql 33 35),cX 37 27 36] [aa,aa,aa,aa,aa,aa,aa,aa,aa,aa,aa,aa,aa] [0,1,3,4,11,37]) (aJ 37 (am ajM aR) aE)
abbrev ajO:=J [aP 10 10] [10]
abbrev ajP:=am (dq [ai 38 1 11,an 39 38,I 40 3,bz 41 .lss 39 40,aS 42 41,au 42 (ai 43 1 11),au 42 (an 44 43),au 42 (ai 45 2 11),au 42 (an 46 45),au 42 (bz 47 .gtr 44 46),ck 48 42 47,aS 49 48,au 49 (ai 50 2 11),au 49 (an 51 50),au 49 (I 52 4),au 49 (bz 53 .gtr 51 52),ck 54 49 53,aS 55 54,au 55 (I 56 1),au 55 (bD 57 .gtr 56 0),au 55 (aS 58 57),aA 58 (ai 59 1 11),aA 58 (an 60 59),aA 58 (I 61 0),aA 58 (I 62 1),aA 58 (bo 63 .sub 62 1),aA 58 (bm 64 5 61 63),aA 58 (ai 65 2 64),aA 58 (an 66 65),aA 58 (bz 67 .lss 60 66),au 55 (cX 68 58 67),ck 69 55 68] [aa,aa,aa,aa,aa,aa,aa,aa,aa,aa,aa,aa,aa,aa,aa,aa,aa,aa,aa,aa,aa,aa,aa,aa,aa,aa,aa,aa,aa,aa,aa,aa] [69]) (aJ 69 (am ajO aR) aE)
abbrev ajQ:=J [aP 10 0] [10]
def Fw:bu:=⟨70,[(.tmp 10)],tW ajL ajR ajT ajN ajP ajQ aR⟩
theorem aCc:bC av (bF av Hz Fw []) Hz=some Fw:=by kernel_rfl
abbrev ajU:=J [aP 4 0,aP 5 0] [0,1]
abbrev aj5:=J [a3 10 (.makeMap none),I 6 10] [0,1,6]
abbrev aj_:=J [I 11 0,bE 12 11,aP 13 0] [1,6,11,12,13]
abbrev akc:=J [cc 14 .lss 13 12] [1,6,11,12,13,14]
abbrev ajV:=J [I 15 13,bm 16 4 11 13,a0 17 4 16,cD 8 [ae,ae,ae,cf],I 7 15,bs 4 8 17] [1,6,7,8,11,12,13]
abbrev ajW:=J [ai 18 0 8,an 19 18,ai 20 1 8,an 21 20,ai 22 3 8,fc 23 22,a3 24 (.build [ae,ae,cf] [(0,(1,(ad 19))),(1,(1,(ad 21))),(2,(1,(ad 23)))]),cD 9 [ae,ae,cf],bs 3 9 24] [1,6,7,8,9,11,12,13]
abbrev ajX:=J [ai 40 0 8,an 41 40,ai 42 1 8,an 43 42,bz 44 .eql 41 43,aS 25 44] [1,6,7,8,9,11,12,13,25]
abbrev ajY:=am (J [ai 36 1 8,an 37 36,I 38 1,bz 39 .geq 37 38,aS 25 39] [1,6,7,8,9,11,12,13,25]) (aJ 25 aE ajX)
abbrev ajZ:=am (J [ai 33 1 8,an 34 33,bD 35 .lss 34 0,aS 25 35] [1,6,7,8,9,11,12,13,25]) (aJ 25 aE ajY)
abbrev aj0:=am (J [ai 29 0 8,an 30 29,I 31 1,bz 32 .geq 30 31,aS 25 32] [1,6,7,8,9,11,12,13,25]) (aJ 25 aE ajZ)
abbrev aj1:=am (J [ai 26 0 8,an 27 26,bD 28 .lss 27 0,aS 25 28] [1,6,7,8,9,11,12,13,25]) (aJ 25 aE aj0)
abbrev aj2:=J [I 45 7,I 4 45,aP 5 9] [4,5]
abbrev aj3:=J [ai 50 2 8,an 51 50,bD 52 .gtr 51 14400,aS 46 52] [1,6,7,9,11,12,13,46]
abbrev aj4:=am (J [ai 47 2 8,an 48 47,bD 49 .lss 48 1,aS 46 49] [1,6,7,8,9,11,12,13,46]) (aJ 46 aE aj3)
abbrev aj6:=J [I 53 7,I 4 53,aP 5 2] [4,5]
abbrev aj7:=J [I 58 7,I 4 58,aP 5 6] [4,5]
abbrev aj8:=am (J [I 55 6,a0 56 3 9,dW 57 (.lookup (.cells [.int,.int,.bool]) [cf] false false (ad 55) (ad 56)),aS 54 57] [1,6,7,9,11,12,13,54]) (aJ 54 (am aj7 aR) aE)
abbrev aj9:=J [I 59 6,a0 60 3 9,lD (.mapUpdate (.cells [.int,.int,.bool]) (ad 59) (ad 60) f5)] [1,6,11,12,13]
abbrev aka:=J [bo 61 .add 13 1,I 13 61] [1,6,11,12,13]
abbrev akb:=J [aP 4 0,aP 5 0] [4,5]
def FU:bu:=⟨62,[(.tmp 4),(.tmp 5)],f0 ajU aj5 (am aj_ (bi 0 (cw [1,6,11,12,13] (cO akc (aJ 14 aE (b5 0)) (bi 1 (cO ajV ajW (bi 2 (am aj1 (aJ 25 (am aj2 aR) (am aj4 (aJ 46 (am aj6 aR) aj8))))) aj9)) aka)))) akb aR⟩
theorem aCz:bC av (bF av HT FU []) HT=some FU:=by kernel_rfl
abbrev akd:=J [eA 4 fT] [0,1]
abbrev akn:=J [I 13 0,I 14 1,bB 15 Du [ad 13,ad 14,cT],I 16 0,I 17 1,bB 18 Du [ad 16,ad 17,f5],I 5 15,I 6 18] [5,6]
abbrev akr:=J [cD 7 [cZ]] [5,6,7]
abbrev akt:=J [a3 19 (.my zO [ad 7]),I 8 19] [5,6,7,8]
abbrev aku:=J [I 20 5,bE 21 20,aP 22 0] [5,6,7,8,21,22]
abbrev ake:=J [cc 23 .lss 22 21] [5,6,7,8,21,22,23]
abbrev akf:=J [I 24 22,I 9 24] [5,6,7,8,9,21,22]
abbrev akg:=J [I 25 5,I 26 9,bm 27 1 25 26,an 28 27,bE 29 28,aP 30 0] [5,6,7,8,9,21,22,28,29,30]
abbrev akh:=J [cc 31 .lss 30 29] [5,6,7,8,9,21,22,28,29,30,31]
abbrev aki:=J [I 32 30,bm 33 1 28 30,an 34 33,I 10 32,I 11 34] [5,6,7,8,9,10,11,21,22,28,29,30]
abbrev akj:=am (J [I 35 9,I 36 10,bz 37 .eql 35 36] [5,6,7,8,9,10,11,21,22,28,29,30,37]) (aJ 37 (b5 3) aE)
abbrev akk:=J [I 38 6,I 39 9,bm 40 1 38 39,an 41 40,I 42 10,bm 43 1 41 42,an 44 43,I 12 44] [5,6,7,8,9,10,11,12,21,22,28,29,30]
abbrev akl:=J [I 45 8,I 46 9,I 47 10,I 48 11,I 49 12,I 50 11,bz 51 .eql 49 50,a3 52 (.hd (ad 45) [ad 46,ad 47,ad 48,ad 51])] [5,6,7,8,9,10,11,12,21,22,28,29,30]
abbrev akm:=J [I 56 8,I 57 9,I 58 10,I 59 12,a3 60 (.hd (ad 56) [ad 57,ad 58,ad 59,f5])] [5,6,7,8,9,21,22,28,29,30]
abbrev ako:=am (J [I 53 12,I 54 11,bz 55 .neq 53 54] [5,6,7,8,9,10,12,21,22,28,29,30,55]) (aJ 55 akm aE)
abbrev akp:=J [bo 61 .add 30 1,I 30 61] [5,6,7,8,9,21,22,28,29,30]
abbrev akq:=J [bo 62 .add 22 1,I 22 62] [5,6,7,8,21,22]
abbrev aks:=J [an 63 7,bB 64 IF [ad 63,.const (.dH Dt [])]] [7]
abbrev Qa:bc:=bf 58 (J [an 65 7,I 4 65] [4])
theorem aAT(P:Program)(Q:Exit->aH->Mem->Prop)(s:aH)(M:Mem):dv P Qa Q s M=@nh P [an 65 7,I 4 65] M ⟨s,fun aM ah=>Q .normal (gW aM [4]) ah⟩:=rfl
def FP:bu:=⟨66,[(.tmp 4)],iZ akd akn akr akt (am aku (bi 0 (cw [5,6,7,8,21,22] (cO ake (aJ 23 aE (b5 0)) (bi 1 (ct akf akg (bi 2 (cw [5,6,7,8,9,21,22,28,29,30] (cO akh (aJ 31 aE (b5 2)) (bi 3 (f0 aki akj akk akl ako)) akp))))) akq)))) aks Qa aR⟩
theorem aCx:bC av (bF av HS FP []) HS=some FP:=by kernel_rfl
abbrev am8:=J [eA 6 fT] [0,1,2]
abbrev ang:=J [a3 18 (.makeMap none),I 7 18] [0,1,2,7]
abbrev ann:=J [I 19 0,bE 20 19,aP 21 0] [1,2,7,19,20,21]
abbrev anq:=J [cc 22 .lss 21 20] [1,2,7,19,20,21,22]
abbrev am9:=J [bm 23 4 19 21,a0 24 4 23,cD 9 [ae,ae,ae,cf],bs 4 9 24] [1,2,7,9,19,20,21]
abbrev am_:=am (J [aS 25 2,aS 26 25,aA 26 (ai 27 3 9),aA 26 (fc 28 27),aA 26 (cQ 29 28),cX 30 26 29] [1,2,7,9,19,20,21,30]) (aJ 30 (b5 1) aE)
abbrev ana:=J [ai 31 0 9,an 32 31,ai 33 1 9,an 34 33,a3 35 (.build [ae,ae,cf] [(0,(1,(ad 32))),(1,(1,(ad 34)))]),cD 10 [ae,ae,cf],bs 3 10 35] [1,2,7,9,10,19,20,21]
abbrev anb:=J [I 37 7,a0 38 3 10,a3 39 (.lookup (.cells [.int,.int,.bool]) [ae] false true (ad 37) (ad 38)),I 36 39,dr 40 36 0,rA 41 36 1,I 11 40,aS 12 41] [1,2,7,9,10,11,12,19,20,21]
abbrev anc:=J [I 50 7,a0 51 3 10,ai 52 2 9,an 53 52,lD (.mapUpdate (.cells [.int,.int,.bool]) (ad 50) (ad 51) (ad 53))] [1,2,7,19,20,21]
abbrev ane:=am (J [aS 42 12,cQ 43 42,aS 44 43,au 44 (ai 45 2 9),au 44 (an 46 45),au 44 (I 47 11),au 44 (bz 48 .lss 46 47),ck 49 44 48] [1,2,7,9,10,19,20,21,49]) (aJ 49 anc aE)
abbrev anf:=J [bo 54 .add 21 1,I 21 54] [1,2,7,19,20,21]
abbrev anh:=J [I 55 7,a3 56 (.t_ (ad 55)),a3 57 (.makeSlice [ae,ae,ae] 3 24 (bW 0) (ad 56)),I 13 57] [1,7,13]
abbrev ani:=J [I 58 7,a3 59 (.uh (ad 58))] [1,13,59]
abbrev anj:=J [a3 60 (.rz (ad 59)),rA 61 60 0] [1,13,59,61]
abbrev ank:=J [a3 62 (.tf (ad 59)),dr 63 62 0,dr 64 62 1,cD 14 [ae,ae,cf],bs 3 14 63,I 15 64] [1,13,14,15,59]
abbrev anl:=J [I 65 13,ai 66 0 14,an 67 66,ai 68 1 14,an 69 68,I 70 15,a3 71 (.build [ae,ae,ae] [(0,(1,(ad 67))),(1,(1,(ad 69))),(2,(1,(ad 70)))]),a3 72 (.buildSlice [ae,ae,ae] 3 1 [(0,(3,(ad 71)))]),ib 73 3 24 65 72,I 13 73] [1,13,59]
abbrev anm:bc:=bf 49 (cw [1,13,59] (ct anj (aJ 61 aE (b5 2)) (bi 3 (am ank anl))))
abbrev ano:=J [I 75 1,a3 76 (.ry (ad 13)),bB 77 IA [ad 75,ad 76],I 74 77,dr 78 74 0,dr 79 74 1,I 16 78,I 17 79] [16]
abbrev anp:=J [I 80 16,I 6 80] [6]
def FT:bu:=⟨81,[(.tmp 6)],iZ am8 ang (am ann (bi 0 (cw [1,2,7,19,20,21] (cO anq (aJ 22 aE (b5 0)) (bi 1 (f0 am9 am_ ana anb ane)) anf)))) anh (am ani (bi 2 anm)) ano anp aR⟩
theorem aCy:bC av (bF av Du FT [(16,[1])]) Du=some FT:=by kernel_rfl
abbrev anr:=J [an 15 4,I 16 0,I 17 1,I 18 2,aS 19 3,a3 20 (.build [ae,ae,ae,cf] [(0,(1,(ad 16))),(1,(1,(ad 17))),(2,(1,(ad 18))),(3,(1,(ad 19)))]),a3 21 (.buildSlice [ae,ae,ae,cf] 4 1 [(0,(4,(ad 20)))]),ib 22 4 32 15 21,bs 1 4 22] []
abbrev ans:=am (J [I 9 2,bD 10 .gtr 9 0,aS 11 10,aA 11 (I 12 2),aA 11 (bD 13 .leq 12 14400),cX 14 11 13] [0,1,2,3,4,14]) (aJ 14 anr aE)
def FQ:bu:=⟨23,[],ans⟩
theorem aCv:bC av (bF av zO FQ []) zO=some FQ:=by kernel_rfl
abbrev anv:=J [cy 2 4 0,cy 3 4 1,aP 4 0] [2,3]
abbrev anw:=dq [ai 5 0 2,an 6 5,ai 7 0 3,an 8 7,bB 9 zN [ad 6,ad 8],ai 10 1 2,an 11 10,ai 12 1 3,an 13 12,bB 14 zN [ad 11,ad 13],ai 15 2 2,an 16 15,ai 17 2 3,an 18 17,bB 19 zN [ad 16,ad 18],a3 20 (.buildSlice [ae,ae,ae] 1 3 [(0,(1,(ad 9))),(1,(1,(ad 14))),(2,(1,(ad 19)))]),bB 21 HA [ad 20],I 4 21] [aa,aa,aa,aa,aa,aa,aa,aa,aa,aa,aa,aa,aa,aa,fA,aa,fA,aa] [4]
def FR:bu:=⟨22,[(.tmp 4)],ct anv anw aR⟩
theorem aCw:bC av (bF av Dt FR []) Dt=some FR:=by kernel_rfl
end Go.aQ.C
namespace Go.aQ.C
open Go.aQ
abbrev asb:=J [eA 2 (.const .dm)] [0]
abbrev asc:=J [eA 2 (.const .dm)] [2]
abbrev asd:=am (J [I 3 0,dW 4 (.bin .eql .fn (ad 3) (.const .gu))] [0,4]) (aJ 4 (am asc aR) aE)
abbrev ase:=J [I 5 0,a3 6 (.build [.gu,cZ,ae] [(0,(1,(ad 5)))]),cy 7 3 6,I 2 7] [2]
def BR:bu:=⟨8,[(.tmp 2)],cO asb asd ase aR⟩
theorem R4:bC av (bF av HW BR []) HW=some BR:=by kernel_rfl
abbrev av1:=J [aP 2 0] [0]
abbrev av2:=J [aP 2 0] [2]
abbrev av3:=am (J [I 3 0,dW 4 (.bin .eql .ptr (ad 3) (.const .dm))] [0,4]) (aJ 4 (am av2 aR) aE)
abbrev av4:=J [I 5 0,bT 6 5,ai 7 1 6,an 8 7,bE 9 8,I 2 9] [2]
def w2:bu:=⟨10,[(.tmp 2)],cO av1 av3 av4 aR⟩
theorem Ln:bC av (bF av zP w2 []) zP=some w2:=by kernel_rfl
abbrev av5:=J [cD 2 [ae,ae,ae,ae,ae,ae,ae,ae,ae,ae,ae,.dm,cZ],cn 3 cT] [0,2]
abbrev awf:=J [I 8 0,bB 9 HU [ad 8],I 7 9,dr 10 7 0,rA 11 7 1,cD 4 [ae,ae,ae,ae,ae,ae,ae,ae,ae,ae,ae,.dm,cZ],bs 13 4 10,aS 5 11] [0,2,4,5]
abbrev awg:=J [a0 14 13 4,bs 13 2 14,cn 3 cT] [2,3]
abbrev awh:=am (J [aS 12 5,cQ 13 12] [0,2,4,13]) (aJ 13 (am awg aR) aE)
abbrev av6:bc:=bf 10 (J [I 15 0,bT 16 15,ai 17 1 16,an 18 17,bE 19 18,bo 20 .sub 19 1,I 6 20] [0,2,4,6])
abbrev av7:bc:=bf 12 (J [I 21 0,I 22 6,bB 23 zS [ad 21,bW 0,ad 22]] [0,2,4,6])
abbrev av8:bc:=bf 14 (J [I 24 0,I 25 0,bT 26 25,ai 27 1 26,an 28 27,I 29 6,a3 30 (.slice 14 (ad 28) none (some (ad 29)) none),bT 31 24,ai 32 1 31,bs 1 32 30] [0,2,4])
abbrev av9:bc:=bf 16 (J [I 33 0,bB 34 HV [ad 33]] [2,4])
abbrev av_:bc:=bf 18 (J [a0 35 13 4,bs 13 2 35,cn 3 f5] [2,3])
abbrev awa:bc:=bf 19 (am av_ aR)
abbrev awb:bc:=bf 20 (am av9 awa)
abbrev awc:bc:=bf 21 (am av8 awb)
abbrev awd:bc:=bf 22 (am av7 awc)
abbrev awe:bc:=bf 23 (am av6 awd)
def BN:bu:=⟨36,[(.cell 2 13 true),(.tmp 3)],cO av5 awf awh awe⟩
theorem RY:bC av (bF av Dv BN []) Dv=some BN:=by kernel_rfl
abbrev azC:=J [aP 2 0] [0]
abbrev azI:=J [aP 3 0] [0,3]
abbrev azJ:=J [I 6 0,bE 7 6,aP 8 0] [3,6,7,8]
abbrev azK:=J [cc 9 .lss 8 7] [3,6,7,8,9]
abbrev azD:=J [bm 10 1 6 8,an 11 10,I 5 11] [3,5,6,7,8]
abbrev azE:=J [I 15 5,I 2 15] [2]
abbrev azF:=am (J [I 12 5,I 13 3,bz 14 .neq 12 13] [3,5,6,7,8,14]) (aJ 14 (am azE aR) aE)
abbrev azG:=J [bo 16 .add 8 1,I 8 16] [3,6,7,8]
abbrev azH:=J [I 17 3,I 2 17] [2]
def Fy:bu:=⟨18,[(.tmp 2)],f0 azC azI (am azJ (bi 0 (cw [3,6,7,8] (cO azK (aJ 9 aE (b5 0)) (bi 1 (am azD azF)) azG)))) azH aR⟩
theorem aCe:bC av (bF av HA Fy []) HA=some Fy:=by kernel_rfl
abbrev abO:=J [aP 4 0] [0,1]
abbrev abX:=J [I 7 0,cV 8 Dj [ad 7],aS 5 8] [0,1,5]
abbrev ab0:=J [I 9 1,cV 10 Dj [ad 9],aS 6 10] [0,1,5,6]
abbrev ab1:=J [aP 4 0] [4]
abbrev abP:=am (J [aS 12 6] [12]) (aJ 12 (am ab1 aR) aE)
abbrev abQ:=J [aP 4 (-1)] [4]
abbrev abR:=am (J [aS 11 5] [0,1,6,11]) (aJ 11 (ct abP abQ aR) aE)
abbrev abS:=J [aP 4 1] [4]
abbrev abT:=am (J [aS 13 6] [0,1,13]) (aJ 13 (am abS aR) aE)
abbrev abU:=J [aP 4 (-1)] [4]
abbrev abV:=am (J [I 14 0,I 15 1,bz 16 .lss 14 15] [0,1,16]) (aJ 16 (am abU aR) aE)
abbrev abW:=J [aP 4 1] [4]
abbrev abY:=am (J [I 17 0,I 18 1,bz 19 .gtr 17 18] [19]) (aJ 19 (am abW aR) aE)
abbrev abZ:=J [aP 4 0] [4]
def Fx:bu:=⟨20,[(.tmp 4)],am abO (iZ abX ab0 abR abT abV abY abZ aR)⟩
theorem aCd:bC av (bF av zN Fx []) zN=some Fx:=by kernel_rfl
abbrev aeD:=J [cy 3 13 1] [0,3]
abbrev aeI:=am (J [I 5 0,dW 6 (.bin .eql .ptr (ad 5) (.const .dm))] [0,3,6]) (aJ 6 aR aE)
abbrev aeJ:bc:=.float [I 7 0,I 8 0,bT 9 8,ai 10 1 9,an 11 10,a0 12 13 3,I 13 0,bT 14 13,ai 15 2 14,an 16 15,a3 17 (.build [ae,ae,ae,ae,ae,ae,ae,ae,ae,ae,ae,.dm,cZ,ae] [(0,(13,(ad 12))),(13,(1,(ad 16)))]),a3 18 (.buildSlice [ae,ae,ae,ae,ae,ae,ae,ae,ae,ae,ae,.dm,cZ,ae] 14 1 [(0,(14,(ad 17)))]),ib 19 14 128 11 18,bT 20 7,ai 21 1 20,bs 1 21 19] [none,none,none,none,none,none,none,none,none,none,none,none,(some [0]),none,none,(some [])] [0]
abbrev aeK:=J [I 22 0,bT 23 22,ai 24 2 23,an 25 24,bo 26 .add 25 1,bT 27 22,ai 28 2 27,bs 1 28 26] [0]
abbrev aeL:=J [I 29 0,bT 30 29,ai 31 1 30,an 32 31,bE 33 32,bo 34 .sub 33 1,I 4 34] [0,4]
abbrev aeE:=am (J [I 35 4,bD 36 .gtr 35 0,aS 37 36,aA 37 (I 38 0),aA 37 (I 39 4),aA 37 (I 40 4),aA 37 (bo 41 .sub 40 1),aA 37 (bo 42 .quo 41 2),aA 37 (cV 43 zR [ad 38,ad 39,ad 42]),cX 44 37 43] [0,4,44]) (aJ 44 aE (b5 0))
abbrev aeF:=J [I 48 0,I 49 4,I 50 4,bo 51 .sub 50 1,bo 52 .quo 51 2,bB 53 zS [ad 48,ad 49,ad 52]] [0,4]
abbrev aeG:=J [I 45 4,bo 46 .sub 45 1,bo 47 .quo 46 2,I 4 47] [0,4]
abbrev aeH:bc:=bf 19 (cw [0,4] (ct aeE (bi 1 aeF) aeG))
abbrev P5:bc:=bf 20 (bi 0 aeH)
def w3:bu:=⟨54,[],iB aeD aeI aeJ aeK aeL P5⟩
theorem Lo:bC av (bF av zQ w3 []) zQ=some w3:=by kernel_rfl
abbrev aeM:=J [cD 2 [ae,ae,ae,ae,ae,ae,ae,ae,ae,ae,ae,.dm,cZ],cn 3 cT] [0,2]
abbrev aeO:=J [cD 4 [ae,ae,ae,ae,ae,ae,ae,ae,ae,ae,ae,.dm,cZ]] [0,2,4]
abbrev aeP:=J [a0 8 13 4,bs 13 2 8,cn 3 cT] [2,3]
abbrev aeQ:=am (J [I 5 0,bB 6 zP [ad 5],bD 7 .eql 6 0] [0,2,4,7]) (aJ 7 (am aeP aR) aE)
abbrev aeN:=J [I 9 0,bT 10 9,ai 11 1 10,an 12 11,a3 13 (.mr 14 (ad 12) (bW 0)),ai 14 0 13,a0 15 13 14,bs 13 2 15,cn 3 f5] [2,3]
def BM:bu:=⟨16,[(.cell 2 13 true),(.tmp 3)],f0 aeM aeO aeQ aeN aR⟩
theorem RX:bC av (bF av HU BM []) HU=some BM:=by kernel_rfl
abbrev aeR:bc:=.float [I 6 0,bT 7 6,ai 8 1 7,an 9 8,I 10 1,I 11 0,bT 12 11,ai 13 1 12,an 14 13,I 15 2,I 16 0,bT 17 16,ai 18 1 17,an 19 18,I 20 2,bm 21 14 19 20,a0 22 14 21,I 23 0,bT 24 23,ai 25 1 24,an 26 25,I 27 1,bm 28 14 26 27,a0 29 14 28,bm 30 14 9 10,bs 14 30 22,bm 31 14 14 15,bs 14 31 29] [none,none,none,none,none,none,none,none,none,none,none,none,none,none,none,none,none,none,none,none,none,none,none,none,none,(some [9]),none,(some [])] []
def BQ:bu:=⟨32,[],aeR⟩
theorem R1:bC av (bF av zS BQ []) zS=some BQ:=by kernel_rfl
abbrev aeS:=J [aP 2 0] [0,2]
abbrev aeX:=J [I 4 2,a3 5 (.bin .mul .none (bW 2) (ad 4)),bo 6 .add 5 1,I 3 6] [0,2,3]
abbrev aeY:=am (J [I 7 3,I 8 0,bT 9 8,ai 10 1 9,an 11 10,bE 12 11,bz 13 .geq 7 12] [0,2,3,13]) (aJ 13 aR aE)
abbrev aeZ:=J [I 29 3,bo 30 .add 29 1,I 3 30] [0,2,3]
abbrev ae0:=am (J [I 14 3,bo 15 .add 14 1,I 16 0,bT 17 16,ai 18 1 17,an 19 18,bE 20 19,bz 21 .lss 15 20,aS 22 21,aA 22 (I 23 0),aA 22 (I 24 3),aA 22 (bo 25 .add 24 1),aA 22 (I 26 3),aA 22 (cV 27 zR [ad 23,ad 25,ad 26]),cX 28 22 27] [0,2,3,28]) (aJ 28 aeZ aE)
abbrev aeT:bc:=bf 11 (am (J [I 31 0,I 32 3,I 33 2,cV 34 zR [ad 31,ad 32,ad 33],cQ 35 34] [0,2,3,35]) (aJ 35 aR aE))
abbrev aeU:bc:=bf 13 (J [I 36 0,I 37 2,I 38 3,bB 39 zS [ad 36,ad 37,ad 38]] [0,3])
abbrev aeV:bc:=bf 15 (J [I 40 3,I 2 40] [0,2])
abbrev aeW:bc:=bf 16 (am aeU aeV)
abbrev P6:bc:=bf 17 (am aeT aeW)
def BP:bu:=⟨41,[],am aeS (bi 0 (cw [0,2] (bi 1 (cO aeX aeY ae0 P6))))⟩
theorem R0:bC av (bF av HV BP []) HV=some BP:=by kernel_rfl
abbrev agH:=J [cn 2 cT] [0]
abbrev agI:=J [I 3 0,I 4 0,bz 5 .neq 3 4,aS 2 5] [2]
def Fz:bu:=⟨6,[(.tmp 2)],ct agH agI aR⟩
theorem aCf:bC av (bF av Dj Fz []) Dj=some Fz:=by kernel_rfl
abbrev ah5:=J [cn 6 cT] [0,1,2]
abbrev ah9:bc:=.float [I 9 0,bT 10 9,ai 11 1 10,an 12 11,I 13 1,bm 14 14 12 13,a0 15 14 14,I 16 0,bT 17 16,ai 18 1 17,an 19 18,I 20 2,bm 21 14 19 20,a0 22 14 21,cD 7 [ae,ae,ae,ae,ae,ae,ae,ae,ae,ae,ae,.dm,cZ,ae],cD 8 [ae,ae,ae,ae,ae,ae,ae,ae,ae,ae,ae,.dm,cZ,ae],bs 14 7 15,bs 14 8 22] [none,none,none,none,none,none,none,none,none,none,none,none,none,none,(some [0,1,2,3,4,5,6,7,8,9,10,11,12,13]),(some [0,1,2,3,4,5,6,7,8,9,10,11,12,13]),(some [7,8,9,10,11,12,13]),(some [])] [0,7,8]
abbrev ah_:=J [cn 6 f5] [6]
abbrev aia:=am (dq [I 23 0,bT 24 23,ai 25 0 24,an 26 25,ai 27 0 7,a0 28 13 27,ai 29 0 8,a0 30 13 29,dW 31 (.hd (ad 26) [ad 28,ad 30])] [aa,aa,aa,aa,aa,aa,aa,aa,fA] [0,7,8,31]) (aJ 31 (am ah_ aR) aE)
abbrev ah6:=J [cn 6 cT] [6]
abbrev ah7:=am (dq [I 32 0,bT 33 32,ai 34 0 33,an 35 34,ai 36 0 8,a0 37 13 36,ai 38 0 7,a0 39 13 38,dW 40 (.hd (ad 35) [ad 37,ad 39])] [aa,aa,aa,aa,aa,aa,aa,aa,fA] [7,8,40]) (aJ 40 (am ah6 aR) aE)
abbrev ah8:=J [ai 41 13 7,an 42 41,ai 43 13 8,an 44 43,bz 45 .lss 42 44,aS 6 45] [6]
def BO:bu:=⟨46,[(.tmp 6)],iB ah5 ah9 aia ah7 ah8 aR⟩
theorem RZ:bC av (bF av zR BO []) zR=some BO:=by kernel_rfl
abbrev ant:=J [I 5 0,bE 6 5,I 4 6] [0,1,4]
abbrev anu:=J [I 7 0,I 8 4,I 9 4,a3 10 (.conv .u64 (ad 9)),bB 11 H4 [ad 10],I 12 1,bB 13 z3 [ad 7,bW 0,ad 8,ad 11,ad 12]] []
def Gi:bu:=⟨14,[],am ant anu⟩
theorem aC6:bC av (bF av IF Gi []) IF=some Gi:=by kernel_rfl
abbrev an9:=J [eA 4 fT,aP 5 0] [0,1]
abbrev aog:=J [I 10 0,I 11 1,bB 12 IB [ad 10,ad 11,fT],I 6 12] [0,1,6]
abbrev aoh:=J [I 15 6,eA 4 fT,I 5 15] [4,5]
abbrev aoi:=am (J [I 13 6,bD 14 .neq 13 0] [0,1,6,14]) (aJ 14 (am aoh aR) aE)
abbrev an_:=J [I 16 1,bB 17 IE [ad 16,cT],I 7 17] [0,7]
abbrev aoa:=J [I 18 0,a3 19 (.makeSlice [cZ] 1 24 (ad 18) (ad 18)),I 8 19] [0,7,8]
abbrev aob:=J [I 20 8,bE 21 20,aP 22 0] [0,7,8,21,22]
abbrev aoc:=J [cc 23 .lss 22 21] [0,7,8,21,22,23]
abbrev aod:=J [I 24 22,I 9 24] [0,7,8,9,21,22]
abbrev aoe:=J [I 25 8,I 26 9,I 27 0,I 28 7,I 29 9,bB 30 IC [ad 27,ad 28,ad 29],bB 31 ID [ad 30],bm 32 1 25 26,bs 1 32 31] [0,7,8,21,22]
abbrev aof:=J [bo 33 .add 22 1,I 22 33] [0,7,8,21,22]
abbrev Qe:bc:=bf 33 (J [I 34 8,I 4 34,aP 5 0] [4,5])
theorem aAW(P:Program)(Q:Exit->aH->Mem->Prop)(s:aH)(M:Mem):dv P Qe Q s M=@nh P [I 34 8,I 4 34,aP 5 0] M ⟨s,fun aM ah=>Q .normal (gW aM [4,5]) ah⟩:=rfl
def Gb:bu:=⟨35,[(.tmp 4),(.tmp 5)],iZ an9 aog aoi an_ aoa (am aob (bi 0 (cw [0,7,8,21,22] (cO aoc (aJ 23 aE (b5 0)) (bi 1 (am aod aoe)) aof)))) Qe aR⟩
theorem aCZ:bC av (bF av IA Gb []) IA=some Gb:=by kernel_rfl
abbrev aoj:=J [cn 10 f5] [0,1,2,3,4,10]
abbrev aot:=J [cn 11 f5] [0,1,2,3,4,10,11]
abbrev aoC:=J [I 21 2,I 22 1,cc 23 .sub 21 22,I 12 23] [0,1,2,3,4,10,11,12]
abbrev aoM:=J [I 26 0,I 27 1,I 28 2,I 29 4,bB 30 IH [ad 26,ad 27,ad 28,ad 29]] []
abbrev aok:=am (J [I 24 12,bD 25 .leq 24 12] [0,1,2,3,4,10,11,12,25]) (aJ 25 (am aoM aR) aE)
abbrev aol:=J [I 33 0,I 34 1,I 35 2,I 36 4,bB 37 aHt [ad 33,ad 34,ad 35,ad 36]] []
abbrev aom:=am (J [I 31 3,bD 32 .eql 31 0] [0,1,2,3,4,10,11,12,32]) (aJ 32 (am aol aR) aE)
abbrev aon:=J [I 40 0,I 41 1,I 42 2,I 43 4,bB 44 aHs [ad 40,ad 41,ad 42,ad 43]] [0,1,2,3,4,10,11,12]
abbrev aoo:=J [I 45 3,bo 46 .sub 45 1,I 3 46] [0,1,2,3,4,10,11,12]
abbrev aop:=am (J [aS 38 10,cQ 39 38] [0,1,2,3,4,10,11,12,39]) (aJ 39 (am aon aoo) aE)
abbrev aoq:=J [I 48 0,I 49 1,I 50 2,I 51 4,bB 52 IG [ad 48,ad 49,ad 50,ad 51],I 47 52,dr 53 47 0,dr 54 47 1,I 13 53,I 14 54] [0,1,2,3,4,10,11,12,13,14]
abbrev aor:=J [I 57 0,I 58 1,I 59 2,I 60 4,bB 61 aHw [ad 57,ad 58,ad 59,ad 60]] [0,1,2,3,4,10,11,12,13]
abbrev aos:=J [I 62 2,bo 63 .sub 62 1,I 64 13,I 65 1,cc 66 .sub 64 65,cc 67 .sub 63 66,I 13 67] [0,1,2,3,4,10,11,12,13]
abbrev aou:=J [aP 14 1] [0,1,2,3,4,10,11,12,13,14]
abbrev aov:=am (J [I 55 14,bD 56 .eql 55 2] [0,1,2,3,4,10,11,12,13,14,56]) (aJ 56 (ct aor aos aou) aE)
abbrev aow:=am (J [I 76 0,I 77 1,I 78 2,I 79 4,cV 80 II [ad 76,ad 77,ad 78,ad 79]] [0,1,2,3,4,10,11,12,13,80]) (aJ 80 aR aE)
abbrev aox:=am (J [aS 68 10,aS 69 68,aA 69 (aS 70 11),cX 71 69 70,aS 72 71,aA 72 (I 73 14),aA 72 (bD 74 .eql 73 1),cX 75 72 74] [0,1,2,3,4,10,11,12,13,75]) (aJ 75 aow aE)
abbrev aoy:=J [I 98 0,I 99 1,I 100 2,I 101 13,I 102 4,bB 103 aHv [ad 98,ad 99,ad 100,ad 101,ad 102],I 15 103] [0,2,3,4,10,11,15]
abbrev aoz:=J [I 104 15,I 1 104] [0,1,2,3,4,10,11]
abbrev aoA:=am (dq [I 81 1,bD 82 .gtr 81 0,aS 83 82,aA 83 (I 84 4),aA 83 (I 85 0),aA 83 (I 86 1),aA 83 (bo 87 .sub 86 1),aA 83 (bm 88 4 85 87),aA 83 (a0 89 4 88),aA 83 (I 90 0),aA 83 (I 91 13),aA 83 (bm 92 4 90 91),aA 83 (a0 93 4 92),aA 83 (a3 94 (.hd (ad 84) [ad 89,ad 93])),aA 83 (bD 95 .lss 94 0),aA 83 (cQ 96 95),cX 97 83 96] [aa,aa,aa,aa,aa,aa,aa,aa,aa,aa,aa,aa,aa,fA,aa,aa,aa] [0,1,2,3,4,10,11,12,13,97]) (aJ 97 (ct aoy aoz (b5 1)) aE)
abbrev aoB:=J [I 106 0,I 107 1,I 108 2,I 109 13,I 110 4,bB 111 aHu [ad 106,ad 107,ad 108,ad 109,ad 110],I 105 111,dr 112 105 0,rA 113 105 1,I 16 112,aS 17 113] [0,1,2,3,4,12,16,17]
abbrev aoD:=J [aS 114 17,aS 11 114] [0,1,2,3,4,11,12,16]
abbrev aoE:=J [I 115 16,I 116 1,cc 117 .sub 115 116,I 118 2,I 119 16,cc 120 .sub 118 119,I 18 117,I 19 120] [0,1,2,3,4,11,12,16,18,19]
abbrev aoF:=J [I 121 12,bo 122 .quo 121 8,I 20 122] [0,1,2,3,4,11,16,18,19,20]
abbrev aoG:=J [I 126 18,I 127 20,bz 128 .geq 126 127,aS 10 128] [0,1,2,3,4,10,11,16]
abbrev aoH:=J [I 129 0,I 130 1,I 131 16,I 132 3,I 133 4,bB 134 z3 [ad 129,ad 130,ad 131,ad 132,ad 133]] [0,2,3,4,10,11,16]
abbrev aoI:=J [I 135 16,bo 136 .add 135 1,I 1 136] [0,1,2,3,4,10,11]
abbrev aoJ:=J [I 137 19,I 138 20,bz 139 .geq 137 138,aS 10 139] [0,1,2,3,4,10,11,16]
abbrev aoK:=J [I 140 0,I 141 16,bo 142 .add 141 1,I 143 2,I 144 3,I 145 4,bB 146 z3 [ad 140,ad 142,ad 143,ad 144,ad 145]] [0,1,3,4,10,11,16]
abbrev aoL:=J [I 147 16,I 2 147] [0,1,2,3,4,10,11]
abbrev aoN:=am (J [I 123 18,I 124 19,bz 125 .lss 123 124] [0,1,2,3,4,11,16,18,19,20,125]) (aJ 125 (ct aoG aoH aoI) (ct aoJ aoK aoL))
def Gq:bu:=⟨148,[],ct aoj aot (bi 0 (cw [0,1,2,3,4,10,11] (bi 1 (iB aoC aok aom aop aoq (iZ aov aox aoA aoB aoD aoE aoF aoN)))))⟩
theorem aDc:bC av (bF av z3 Gq []) z3=some Gq:=by kernel_rfl
abbrev aoV:=J [cy 3 1 0,aP 6 0] [1,2,3]
abbrev ao4:=J [aP 6 2] [6]
abbrev apc:=am (J [an 12 3,bD 13 .lss 12 0,aS 14 13,au 14 (an 15 3),au 14 (bD 16 .gtr 15 64),ck 17 14 16] [1,2,3,17]) (aJ 17 (am ao4 aR) aE)
abbrev ape:=J [aP 6 5] [6]
abbrev aoW:=am (J [I 18 1,bE 19 18,bD 20 .gtr 19 4096] [1,2,3,20]) (aJ 20 (am ape aR) aE)
abbrev aoX:=J [a3 21 (.my z0 [ad 3]),I 7 21] [1,2,7]
abbrev aoY:=J [I 22 1,bE 23 22,aP 24 0] [2,7,22,23,24]
abbrev aoZ:=J [cc 25 .lss 24 23] [2,7,22,23,24,25]
abbrev ao0:=J [bm 26 3 22 24,a0 27 3 26,cD 9 [ae,ae,ae],bs 3 9 27] [2,7,9,22,23,24]
abbrev ao1:=J [aP 6 9] [6]
abbrev ao2:=am (J [I 28 7,ai 29 0 9,an 30 29,dW 31 (.hd (ad 28) [ad 30]),aS 32 31,au 32 (I 33 7),au 32 (ai 34 1 9),au 32 (an 35 34),au 32 (dW 36 (.hd (ad 33) [ad 35])),ck 37 32 36] [2,7,9,22,23,24,37]) (aJ 37 (am ao1 aR) aE)
abbrev ao3:=J [aP 6 2] [6]
abbrev ao5:=am (J [ai 38 2 9,an 39 38,bD 40 .lss 39 0,aS 41 40,au 41 (ai 42 2 9),au 41 (an 43 42),au 41 (bD 44 .gtr 43 1073741824),ck 45 41 44] [2,7,22,23,24,45]) (aJ 45 (am ao3 aR) aE)
abbrev ao6:=J [bo 46 .add 24 1,I 24 46] [2,7,22,23,24]
abbrev ao7:=J [I 47 2,bE 48 47,aP 49 0] [7,47,48,49]
abbrev ao8:=J [cc 50 .lss 49 48] [7,47,48,49,50]
abbrev ao9:=J [bm 51 1 47 49,an 52 51,I 11 52] [7,11,47,48,49]
abbrev ao_:=J [aP 6 9] [6]
abbrev apa:=am (J [I 53 7,I 54 11,dW 55 (.hd (ad 53) [ad 54])] [7,47,48,49,55]) (aJ 55 (am ao_ aR) aE)
abbrev apb:=J [bo 56 .add 49 1,I 49 56] [7,47,48,49]
abbrev apd:=J [aP 6 0] [6]
def Gc:bu:=⟨57,[(.tmp 6)],iZ aoV apc aoW aoX (am aoY (bi 0 (cw [2,7,22,23,24] (cO aoZ (aJ 25 aE (b5 0)) (bi 1 (ct ao0 ao2 ao5)) ao6)))) (am ao7 (bi 2 (cw [7,47,48,49] (cO ao8 (aJ 50 aE (b5 2)) (bi 3 (am ao9 apa)) apb)))) apd aR⟩
theorem aC1:bC av (bF av IB Gc []) IB=some Gc:=by kernel_rfl
abbrev apf:=J [eA 4 (.const .jB)] [0,1]
abbrev apm:=J [a3 8 (.makeMap none),I 5 8] [0,1,5]
abbrev apn:=J [I 9 0,bE 10 9,aP 11 0] [1,5,9,10,11]
abbrev apo:=J [cc 12 .lss 11 10] [1,5,9,10,11,12]
abbrev apg:=J [bm 13 3 9 11,a0 14 3 13,cD 7 [ae,ae,ae],bs 3 7 14] [1,5,7,9,10,11]
abbrev aph:=J [ai 16 1 7,an 17 16,ai 18 0 7,an 19 18,ai 20 0 7,bs 1 20 17,ai 21 1 7,bs 1 21 19] [1,5,7,9,10,11]
abbrev api:=am (J [aS 15 1] [1,5,7,9,10,11,15]) (aJ 15 aph aE)
abbrev apj:bc:=.float [I 22 5,ai 23 0 7,an 24 23,I 25 5,ai 26 0 7,an 27 26,a3 28 (.lookup .int [cZ] false false (ad 25) (ad 27)),a0 29 3 7,a3 30 (.buildSlice [ae,ae,ae] 3 1 [(0,(3,(ad 29)))]),ib 31 3 24 28 30,lD (.mapUpdate .int (ad 22) (ad 24) (ad 31))] [none,none,none,none,none,none,none,none,none,(some [0,1,2]),(some [])] [1,5,9,10,11]
abbrev apk:=J [bo 32 .add 11 1,I 11 32] [1,5,9,10,11]
abbrev apl:=J [I 33 5,I 4 33] [4]
def Gh:bu:=⟨34,[(.tmp 4)],f0 apf apm (am apn (bi 0 (cw [1,5,9,10,11] (cO apo (aJ 12 aE (b5 0)) (bi 1 (ct apg api apj)) apk)))) apl aR⟩
theorem aC5:bC av (bF av IE Gh []) IE=some Gh:=by kernel_rfl
abbrev apq:=J [eA 2 fT] [0]
abbrev apu:=J [I 6 0,bE 7 6,a3 8 (.makeSlice [ae] 1 8 (ad 7) (ad 7)),I 3 8] [0,3]
abbrev apv:=J [I 9 0,bE 10 9,aP 11 0] [3,9,10,11]
abbrev apw:=J [cc 12 .lss 11 10] [3,9,10,11,12]
abbrev apr:=J [I 13 11,bm 14 3 9 11,a0 15 3 14,cD 5 [ae,ae,ae],I 4 13,bs 3 5 15] [3,4,5,9,10,11]
abbrev aps:=J [I 16 3,I 17 4,ai 18 1 5,an 19 18,bm 20 1 16 17,bs 1 20 19] [3,9,10,11]
abbrev apt:=J [bo 21 .add 11 1,I 11 21] [3,9,10,11]
abbrev Qf:bc:=bf 24 (J [I 22 3,I 2 22] [2])
theorem aAX(P:Program)(Q:Exit->aH->Mem->Prop)(s:aH)(M:Mem):dv P Qf Q s M=@nh P [I 22 3,I 2 22] M ⟨s,fun aM ah=>Q .normal (gW aM [2]) ah⟩:=rfl
def Gf:bu:=⟨23,[(.tmp 2)],f0 apq apu (am apv (bi 0 (cw [3,9,10,11] (cO apw (aJ 12 aE (b5 0)) (bi 1 (am apr aps)) apt)))) Qf aR⟩
theorem aC3:bC av (bF av ID Gf []) ID=some Gf:=by kernel_rfl
abbrev apx:=J [eA 6 fT] [0,1,2]
abbrev apE:=J [I 14 0,a3 15 (.makeSlice [ae,ae,ae] 3 24 (ad 14) (ad 14)),I 7 15] [1,2,7]
abbrev apN:=J [I 16 7,bE 17 16,aP 18 0] [1,2,7,17,18]
abbrev apP:=J [cc 19 .lss 18 17] [1,2,7,17,18,19]
abbrev apy:=J [I 20 18,I 8 20] [1,2,7,8,17,18]
abbrev apz:=J [I 21 7,I 22 8,I 23 8,a3 24 (.build [ae,ae,ae] [(0,(1,(ad 23))),(1,(1,(.const (.int .i64 (-1))))),(2,(1,(.const (.int .i64 (-1)))))]),bm 25 3 21 22,bs 3 25 24] [1,2,7,17,18]
abbrev apA:=J [bo 26 .add 18 1,I 18 26] [1,2,7,17,18]
abbrev apB:=J [bB 27 HX [.const (.dH jQ [])],I 9 27] [1,2,7,9]
abbrev apC:=J [I 28 9,I 29 2,a3 30 (.build [ae,ae,ae] [(0,(1,(ad 29)))]),bB 31 xL [ad 28,ad 30]] [1,7,9]
abbrev apD:=J [I 33 9,bB 34 xK [ad 33],I 32 34,dr 35 32 0,rA 36 32 1,cD 10 [ae,ae,ae],bs 3 10 35,aS 11 36] [1,7,9,10,11]
abbrev KI:bc:=bf 30 (J [I 39 7,I 6 39] [6])
theorem aAY(P:Program)(Q:Exit->aH->Mem->Prop)(s:aH)(M:Mem):dv P KI Q s M=@nh P [I 39 7,I 6 39] M ⟨s,fun aM ah=>Q .normal (gW aM [6]) ah⟩:=rfl
abbrev Qg:bc:=bf 31 (am KI aR)
abbrev apF:=am (J [aS 37 11,cQ 38 37] [1,7,9,10,38]) (aJ 38 Qg aE)
abbrev apG:=am (J [I 40 7,ai 41 0 10,an 42 41,bm 43 3 40 42,ai 44 2 43,an 45 44,bD 46 .geq 45 0] [1,7,9,10,46]) (aJ 46 (b5 3) aE)
abbrev apH:=J [I 47 7,ai 48 0 10,an 49 48,a0 50 3 10,bm 51 3 47 49,bs 3 51 50] [1,7,9,10]
abbrev apI:=J [I 52 1,ai 53 0 10,an 54 53,a3 55 (.lookup .int [cZ] false false (ad 52) (ad 54)),bE 56 55,aP 57 0] [1,7,9,10,55,56,57]
abbrev apJ:=J [cc 58 .lss 57 56] [1,7,9,10,55,56,57,58]
abbrev apK:=J [bm 59 3 55 57,a0 60 3 59,cD 13 [ae,ae,ae],bs 3 13 60] [1,7,9,10,13,55,56,57]
abbrev apL:=J [I 68 9,ai 69 1 13,an 70 69,ai 71 1 10,an 72 71,ai 73 2 13,an 74 73,cc 75 .add 72 74,ai 76 2 10,an 77 76,bo 78 .add 77 1,a3 79 (.build [ae,ae,ae] [(0,(1,(ad 70))),(1,(1,(ad 75))),(2,(1,(ad 78)))]),bB 80 xL [ad 68,ad 79]] [1,7,9,10,55,56,57]
abbrev apM:=am (J [I 61 7,ai 62 1 13,an 63 62,bm 64 3 61 63,ai 65 2 64,an 66 65,bD 67 .lss 66 0] [1,7,9,10,13,55,56,57,67]) (aJ 67 apL aE)
abbrev apO:=J [bo 81 .add 57 1,I 57 81] [1,7,9,10,55,56,57]
def Ge:bu:=⟨82,[(.tmp 6)],iB apx apE (am apN (bi 0 (cw [1,2,7,17,18] (cO apP (aJ 19 aE (b5 0)) (bi 1 (am apy apz)) apA)))) apB apC (bi 2 (cw [1,7,9] (bi 3 (iB apD apF apG apH apI (bi 4 (cw [1,7,9,10,55,56,57] (cO apJ (aJ 58 aE (b5 4)) (bi 5 (am apK apM)) apO)))))))⟩
theorem aC2:bC av (bF av IC Ge []) IC=some Ge:=by kernel_rfl
abbrev apQ:=J [I 10 1,bo 11 .add 10 1,I 8 11] [0,1,2,3,8]
abbrev apT:=am (J [I 12 8,I 13 2,bz 14 .lss 12 13] [0,1,2,3,8,14]) (aJ 14 aE (b5 0))
abbrev apU:=J [I 17 8,I 9 17] [0,1,2,3,8,9]
abbrev apV:=am (dq [I 18 9,I 19 1,bz 20 .gtr 18 19,aS 21 20,aA 21 (I 22 3),aA 21 (I 23 0),aA 21 (I 24 9),aA 21 (bm 25 4 23 24),aA 21 (a0 26 4 25),aA 21 (I 27 0),aA 21 (I 28 9),aA 21 (bo 29 .sub 28 1),aA 21 (bm 30 4 27 29),aA 21 (a0 31 4 30),aA 21 (a3 32 (.hd (ad 22) [ad 26,ad 31])),aA 21 (bD 33 .lss 32 0),cX 34 21 33] [aa,aa,aa,aa,aa,aa,aa,aa,aa,aa,aa,aa,aa,aa,fA,aa,aa] [0,1,2,3,8,9,34]) (aJ 34 aE (b5 2))
abbrev apW:bc:=.float [I 37 0,I 38 9,I 39 0,I 40 9,bo 41 .sub 40 1,I 42 0,I 43 9,bo 44 .sub 43 1,bm 45 4 42 44,a0 46 4 45,I 47 0,I 48 9,bm 49 4 47 48,a0 50 4 49,bm 51 4 37 38,bs 4 51 46,bm 52 4 39 41,bs 4 52 50] [none,none,none,none,none,none,none,none,none,none,none,none,none,none,none,(some [2,3,4]),none,(some [])] [0,1,2,3,8,9]
abbrev apR:=J [I 35 9,bo 36 .sub 35 1,I 9 36] [0,1,2,3,8,9]
abbrev apS:=J [I 15 8,bo 16 .add 15 1,I 8 16] [0,1,2,3,8]
def Gk:bu:=⟨53,[],am apQ (bi 0 (cw [0,1,2,3,8] (ct apT (bi 1 (am apU (bi 2 (cw [0,1,2,3,8,9] (ct apV (bi 3 apW) apR))))) apS)))⟩
theorem aC8:bC av (bF av IH Gk []) IH=some Gk:=by kernel_rfl
abbrev apX:=J [aP 8 0,aP 9 0] [0,1,2,3]
abbrev ap6:=J [I 15 2,I 16 1,cc 17 .sub 15 16,I 10 17] [0,1,3,10]
abbrev aqb:=J [cD 11 [ae]] [0,1,3,10,11]
abbrev aqc:=J [I 18 1,I 19 10,bo 20 .quo 19 4,bo 21 .mul 20 1,cc 22 .add 18 21,I 12 22] [0,1,3,10,11,12]
abbrev aqd:=J [I 23 1,I 24 10,bo 25 .quo 24 4,bo 26 .mul 25 2,cc 27 .add 23 26,I 13 27] [0,1,3,10,11,12,13]
abbrev apY:=J [I 28 1,I 29 10,bo 30 .quo 29 4,bo 31 .mul 30 3,cc 32 .add 28 31,I 14 32] [0,3,10,11,12,13,14]
abbrev apZ:=J [I 37 0,I 38 12,I 39 3,bB 40 z1 [ad 37,ad 38,ad 11,ad 39],I 12 40] [0,3,11,12,13,14]
abbrev ap0:=J [I 41 0,I 42 13,I 43 3,bB 44 z1 [ad 41,ad 42,ad 11,ad 43],I 13 44] [0,3,11,12,13,14]
abbrev ap1:=J [I 45 0,I 46 14,I 47 3,bB 48 z1 [ad 45,ad 46,ad 11,ad 47],I 14 48] [0,3,11,12,13,14]
abbrev ap2:=am (J [I 35 10,bD 36 .geq 35 50] [0,3,11,12,13,14,36]) (aJ 36 (ct apZ ap0 ap1) aE)
abbrev ap3:=J [I 49 0,I 50 12,I 51 13,I 52 14,I 53 3,bB 54 DG [ad 49,ad 50,ad 51,ad 52,ad 11,ad 53],I 13 54] [11,13]
abbrev ap4:=am (J [I 33 10,bD 34 .geq 33 8] [0,3,10,11,12,13,14,34]) (aJ 34 (am ap2 ap3) aE)
abbrev ap5:=J [an 55 11] [13,55]
abbrev ap7:=J [I 59 13,I 8 59,aP 9 1] [8,9]
abbrev ap8:=J [I 62 13,I 8 62,aP 9 2] [8,9]
abbrev ap9:=J [I 56 13,I 8 56,aP 9 0] [8,9]
abbrev ap_:=am (J [bD 61 .eql 55 12,aS 60 61] [13,60]) (aJ 60 (am ap8 aR) (am ap9 aR))
abbrev aqa:=am (J [bD 58 .eql 55 0,aS 57 58] [13,55,57]) (aJ 57 (am ap7 aR) ap_)
def Gj:bu:=⟨63,[(.tmp 8),(.tmp 9)],am apX (iZ ap6 aqb aqc aqd apY ap4 ap5 (bi 0 aqa))⟩
theorem aC7:bC av (bF av IG Gj []) IG=some Gj:=by kernel_rfl
abbrev aqe:=J [cn 8 cT] [0,1,2,3]
abbrev aqm:=J [I 13 1,bo 14 .add 13 1,I 9 14] [0,1,2,3,9]
abbrev aqt:=J [aP 10 0] [0,1,2,3,9,10]
abbrev aqz:=am (J [I 15 10,bD 16 .lss 15 5] [0,1,2,3,9,10,16]) (aJ 16 aE (b5 0))
abbrev aqC:=am (dq [I 19 9,I 20 2,bz 21 .lss 19 20,aS 22 21,aA 22 (I 23 3),aA 22 (I 24 0),aA 22 (I 25 9),aA 22 (bm 26 4 24 25),aA 22 (a0 27 4 26),aA 22 (I 28 0),aA 22 (I 29 9),aA 22 (bo 30 .sub 29 1),aA 22 (bm 31 4 28 30),aA 22 (a0 32 4 31),aA 22 (a3 33 (.hd (ad 23) [ad 27,ad 32])),aA 22 (bD 34 .lss 33 0),aA 22 (cQ 35 34),cX 36 22 35] [aa,aa,aa,aa,aa,aa,aa,aa,aa,aa,aa,aa,aa,aa,fA,aa,aa,aa] [0,1,2,3,9,10,36]) (aJ 36 aE (b5 2))
abbrev aqf:=J [I 37 9,bo 38 .add 37 1,I 9 38] [0,1,2,3,9,10]
abbrev aqg:=J [cn 8 f5] [8]
abbrev aqh:=am (J [I 39 9,I 40 2,bz 41 .eql 39 40] [0,1,2,3,9,10,41]) (aJ 41 (am aqg aR) aE)
abbrev aqi:=J [cn 8 cT] [8]
abbrev aqj:=am (J [I 42 2,I 43 1,cc 44 .sub 42 43,bD 45 .lss 44 50] [0,1,2,3,9,10,45]) (aJ 45 (am aqi aR) aE)
abbrev aqk:bc:=.float [I 46 0,I 47 9,I 48 0,I 49 9,bo 50 .sub 49 1,I 51 0,I 52 9,bo 53 .sub 52 1,bm 54 4 51 53,a0 55 4 54,I 56 0,I 57 9,bm 58 4 56 57,a0 59 4 58,bm 60 4 46 47,bs 4 60 55,bm 61 4 48 50,bs 4 61 59] [none,none,none,none,none,none,none,none,none,none,none,none,none,none,none,(some [2,3,4]),none,(some [])] [0,1,2,3,9,10]
abbrev aql:=J [I 66 9,bo 67 .sub 66 1,I 11 67] [0,1,2,3,9,10,11]
abbrev aqn:=am (J [I 68 11,bD 69 .geq 68 1] [0,1,2,3,9,10,11,69]) (aJ 69 aE (b5 4))
abbrev aqo:=am (dq [I 72 3,I 73 0,I 74 11,bm 75 4 73 74,a0 76 4 75,I 77 0,I 78 11,bo 79 .sub 78 1,bm 80 4 77 79,a0 81 4 80,a3 82 (.hd (ad 72) [ad 76,ad 81]),bD 83 .lss 82 0,cQ 84 83] [aa,aa,aa,aa,aa,aa,aa,aa,aa,aa,fA,aa,aa] [0,1,2,3,9,10,11,84]) (aJ 84 (b5 4) aE)
abbrev aqp:bc:=.float [I 85 0,I 86 11,I 87 0,I 88 11,bo 89 .sub 88 1,I 90 0,I 91 11,bo 92 .sub 91 1,bm 93 4 90 92,a0 94 4 93,I 95 0,I 96 11,bm 97 4 95 96,a0 98 4 97,bm 99 4 85 86,bs 4 99 94,bm 100 4 87 89,bs 4 100 98] [none,none,none,none,none,none,none,none,none,none,none,none,none,none,none,(some [2,3,4]),none,(some [])] [0,1,2,3,9,10,11]
abbrev aqq:=J [I 70 11,bo 71 .sub 70 1,I 11 71] [0,1,2,3,9,10,11]
abbrev aqr:=am (J [I 62 9,I 63 1,cc 64 .sub 62 63,bD 65 .geq 64 2] [0,1,2,3,9,10,65]) (aJ 65 (am aql (bi 4 (cw [0,1,2,3,9,10,11] (ct aqn (bi 5 (am aqo aqp)) aqq)))) aE)
abbrev aqs:=J [I 105 9,bo 106 .add 105 1,I 12 106] [0,1,2,3,9,10,12]
abbrev aqu:=am (J [I 107 12,I 108 2,bz 109 .lss 107 108] [0,1,2,3,9,10,12,109]) (aJ 109 aE (b5 6))
abbrev aqv:=am (dq [I 112 3,I 113 0,I 114 12,bm 115 4 113 114,a0 116 4 115,I 117 0,I 118 12,bo 119 .sub 118 1,bm 120 4 117 119,a0 121 4 120,a3 122 (.hd (ad 112) [ad 116,ad 121]),bD 123 .lss 122 0,cQ 124 123] [aa,aa,aa,aa,aa,aa,aa,aa,aa,aa,fA,aa,aa] [0,1,2,3,9,10,12,124]) (aJ 124 (b5 6) aE)
abbrev aqw:bc:=.float [I 125 0,I 126 12,I 127 0,I 128 12,bo 129 .sub 128 1,I 130 0,I 131 12,bo 132 .sub 131 1,bm 133 4 130 132,a0 134 4 133,I 135 0,I 136 12,bm 137 4 135 136,a0 138 4 137,bm 139 4 125 126,bs 4 139 134,bm 140 4 127 129,bs 4 140 138] [none,none,none,none,none,none,none,none,none,none,none,none,none,none,none,(some [2,3,4]),none,(some [])] [0,1,2,3,9,10,12]
abbrev aqx:=J [I 110 12,bo 111 .add 110 1,I 12 111] [0,1,2,3,9,10,12]
abbrev aqy:=am (J [I 101 2,I 102 9,cc 103 .sub 101 102,bD 104 .geq 103 2] [0,1,2,3,9,10,104]) (aJ 104 (am aqs (bi 6 (cw [0,1,2,3,9,10,12] (ct aqu (bi 7 (am aqv aqw)) aqx)))) aE)
abbrev aqA:=J [I 17 10,bo 18 .add 17 1,I 10 18] [0,1,2,3,9,10]
abbrev aqB:=J [cn 8 cT] [8]
def Gp:bu:=⟨141,[(.tmp 8)],f0 aqe aqm (am aqt (bi 0 (cw [0,1,2,3,9,10] (ct aqz (bi 1 (iB (bi 2 (cw [0,1,2,3,9,10] (am aqC (bi 3 aqf)))) aqh aqj aqk aqr aqy)) aqA)))) aqB aR⟩
theorem aDb:bC av (bF av II Gp []) II=some Gp:=by kernel_rfl
abbrev aqD:=J [cn 3 cT] [0,1]
abbrev aqE:=J [I 4 0,bD 5 .lss 4 0,aS 6 5,au 6 (I 7 0),au 6 (an 8 1),au 6 (bz 9 .geq 7 8),ck 10 6 9,aS 3 10] [3]
def Gd:bu:=⟨11,[(.tmp 3)],ct aqD aqE aR⟩
theorem aC0:bC av (bF av z0 Gd []) z0=some Gd:=by kernel_rfl
abbrev aqF:=J [eA 2 (.const .dm)] [0]
abbrev aqG:=J [eA 2 (.const .dm)] [2]
abbrev aqH:=am (J [I 3 0,dW 4 (.bin .eql .fn (ad 3) (.const .gu))] [0,4]) (aJ 4 (am aqG aR) aE)
abbrev aqI:=J [I 5 0,a3 6 (.build [.gu,cZ,ae] [(0,(1,(ad 5)))]),cy 7 3 6,I 2 7] [2]
def F0:bu:=⟨8,[(.tmp 2)],cO aqF aqH aqI aR⟩
theorem aCF:bC av (bF av HX F0 []) HX=some F0:=by kernel_rfl
abbrev aqJ:=J [cy 2 3 0,cy 3 3 1,cn 4 cT] [2,3]
abbrev aqK:=J [ai 5 1 2,an 6 5,ai 7 1 3,an 8 7,bz 9 .lss 6 8,aS 10 9,au 10 (ai 11 1 2),au 10 (an 12 11),au 10 (ai 13 1 3),au 10 (an 14 13),au 10 (bz 15 .eql 12 14),au 10 (aS 16 15),aA 16 (ai 17 2 2),aA 16 (an 18 17),aA 16 (ai 19 2 3),aA 16 (an 20 19),aA 16 (bz 21 .lss 18 20),au 10 (cX 22 16 21),ck 23 10 22,aS 4 23] [4]
def Gg:bu:=⟨24,[(.tmp 4)],ct aqJ aqK aR⟩
theorem aC4:bC av (bF av jQ Gg []) jQ=some Gg:=by kernel_rfl
abbrev aqL:=J [cy 3 3 1] [0,3]
abbrev aqQ:=am (J [I 5 0,dW 6 (.bin .eql .ptr (ad 5) (.const .dm))] [0,3,6]) (aJ 6 aR aE)
abbrev aqR:bc:=.float [I 7 0,I 8 0,bT 9 8,ai 10 1 9,an 11 10,a0 12 3 3,I 13 0,bT 14 13,ai 15 2 14,an 16 15,a3 17 (.build [ae,ae,ae,ae] [(0,(3,(ad 12))),(3,(1,(ad 16)))]),a3 18 (.buildSlice [ae,ae,ae,ae] 4 1 [(0,(4,(ad 17)))]),ib 19 4 32 11 18,bT 20 7,ai 21 1 20,bs 1 21 19] [none,none,none,none,none,none,none,none,none,none,none,none,(some [0]),none,none,(some [])] [0]
abbrev aqS:=J [I 22 0,bT 23 22,ai 24 2 23,an 25 24,bo 26 .add 25 1,bT 27 22,ai 28 2 27,bs 1 28 26] [0]
abbrev aqT:=J [I 29 0,bT 30 29,ai 31 1 30,an 32 31,bE 33 32,bo 34 .sub 33 1,I 4 34] [0,4]
abbrev aqM:=am (J [I 35 4,bD 36 .gtr 35 0,aS 37 36,aA 37 (I 38 0),aA 37 (I 39 4),aA 37 (I 40 4),aA 37 (bo 41 .sub 40 1),aA 37 (bo 42 .quo 41 2),aA 37 (cV 43 xM [ad 38,ad 39,ad 42]),cX 44 37 43] [0,4,44]) (aJ 44 aE (b5 0))
abbrev aqN:=J [I 48 0,I 49 4,I 50 4,bo 51 .sub 50 1,bo 52 .quo 51 2,bB 53 vE [ad 48,ad 49,ad 52]] [0,4]
abbrev aqO:=J [I 45 4,bo 46 .sub 45 1,bo 47 .quo 46 2,I 4 47] [0,4]
abbrev aqP:bc:=bf 19 (cw [0,4] (ct aqM (bi 1 aqN) aqO))
abbrev Qh:bc:=bf 20 (bi 0 aqP)
def zc:bu:=⟨54,[],iB aqL aqQ aqR aqS aqT Qh⟩
theorem R3:bC av (bF av xL zc []) xL=some zc:=by kernel_rfl
abbrev aqU:=J [cD 2 [ae,ae,ae],cn 3 cT] [0,2]
abbrev aq0:=J [I 8 0,bB 9 zT [ad 8],I 7 9,dr 10 7 0,rA 11 7 1,cD 4 [ae,ae,ae],bs 3 4 10,aS 5 11] [0,2,4,5]
abbrev aq1:=J [a0 14 3 4,bs 3 2 14,cn 3 cT] [2,3]
abbrev aq2:=am (J [aS 12 5,cQ 13 12] [0,2,4,13]) (aJ 13 (am aq1 aR) aE)
abbrev aqV:=J [I 15 0,bT 16 15,ai 17 1 16,an 18 17,bE 19 18,bo 20 .sub 19 1,I 6 20] [0,2,4,6]
abbrev aqW:=J [I 21 0,I 22 6,bB 23 vE [ad 21,bW 0,ad 22]] [0,2,4,6]
abbrev aqX:=J [I 24 0,I 25 0,bT 26 25,ai 27 1 26,an 28 27,I 29 6,a3 30 (.slice 4 (ad 28) none (some (ad 29)) none),bT 31 24,ai 32 1 31,bs 1 32 30] [0,2,4]
abbrev aqY:=J [I 33 0,bB 34 Dx [ad 33]] [2,4]
abbrev aqZ:=J [a0 35 3 4,bs 3 2 35,cn 3 f5] [2,3]
def zb:bu:=⟨36,[(.cell 2 3 true),(.tmp 3)],am aqU (iZ aq0 aq2 aqV aqW aqX aqY aqZ aR)⟩
theorem R2:bC av (bF av xK zb []) xK=some zb:=by kernel_rfl
abbrev aq3:=J [aP 8 0] [0,1,2,3]
abbrev aq4:=J [I 9 0,I 10 1,bo 11 .sub 10 1,I 12 1,I 13 1,bo 14 .add 13 1,I 15 2,I 16 3,bB 17 DG [ad 9,ad 11,ad 12,ad 14,ad 15,ad 16],I 8 17] [8]
def Gl:bu:=⟨18,[(.tmp 8)],ct aq3 aq4 aR⟩
theorem aC9:bC av (bF av z1 Gl []) z1=some Gl:=by kernel_rfl
abbrev aq5:=J [aP 12 0] [0,1,2,3,4,5]
abbrev aq6:=J [I 14 0,I 15 1,I 16 2,I 17 4,I 18 5,bB 19 z2 [ad 14,ad 15,ad 16,ad 17,ad 18],I 13 19,dr 20 13 0,dr 21 13 1,I 1 20,I 2 21] [0,1,2,3,4,5]
abbrev aq7:=J [I 23 0,I 24 2,I 25 3,I 26 4,I 27 5,bB 28 z2 [ad 23,ad 24,ad 25,ad 26,ad 27],I 22 28,dr 29 22 0,dr 30 22 1,I 2 29,I 3 30] [0,1,2,4,5]
abbrev aq8:=J [I 32 0,I 33 1,I 34 2,I 35 4,I 36 5,bB 37 z2 [ad 32,ad 33,ad 34,ad 35,ad 36],I 31 37,dr 38 31 0,dr 39 31 1,I 1 38,I 2 39] [2]
abbrev aq9:=J [I 40 2,I 12 40] [12]
def Gm:bu:=⟨41,[(.tmp 12)],iB aq5 aq6 aq7 aq8 aq9 aR⟩
theorem aC_:bC av (bF av DG Gm []) DG=some Gm:=by kernel_rfl
abbrev aq_:=J [cn 6 cT] [0,1,2]
abbrev ard:bc:=.float [I 9 0,bT 10 9,ai 11 1 10,an 12 11,I 13 1,bm 14 4 12 13,a0 15 4 14,I 16 0,bT 17 16,ai 18 1 17,an 19 18,I 20 2,bm 21 4 19 20,a0 22 4 21,cD 7 [ae,ae,ae,ae],cD 8 [ae,ae,ae,ae],bs 4 7 15,bs 4 8 22] [none,none,none,none,none,none,none,none,none,none,none,none,none,none,(some [0,1,2,3,4,5,6,7,8,9,10,11,12,13]),(some [0,1,2,3,4,5,6,7,8,9,10,11,12,13]),(some [7,8,9,10,11,12,13]),(some [])] [0,7,8]
abbrev are:=J [cn 6 f5] [6]
abbrev arf:=am (dq [I 23 0,bT 24 23,ai 25 0 24,an 26 25,ai 27 0 7,a0 28 3 27,ai 29 0 8,a0 30 3 29,dW 31 (.hd (ad 26) [ad 28,ad 30])] [aa,aa,aa,aa,aa,aa,aa,aa,fA] [0,7,8,31]) (aJ 31 (am are aR) aE)
abbrev ara:=J [cn 6 cT] [6]
abbrev arb:=am (dq [I 32 0,bT 33 32,ai 34 0 33,an 35 34,ai 36 0 8,a0 37 3 36,ai 38 0 7,a0 39 3 38,dW 40 (.hd (ad 35) [ad 37,ad 39])] [aa,aa,aa,aa,aa,aa,aa,aa,fA] [7,8,40]) (aJ 40 (am ara aR) aE)
abbrev arc:=J [ai 41 3 7,an 42 41,ai 43 3 8,an 44 43,bz 45 .lss 42 44,aS 6 45] [6]
def FX:bu:=⟨46,[(.tmp 6)],iB aq_ ard arf arb arc aR⟩
theorem aCC:bC av (bF av xM FX []) xM=some FX:=by kernel_rfl
abbrev arh:bc:=.float [I 6 0,bT 7 6,ai 8 1 7,an 9 8,I 10 1,I 11 0,bT 12 11,ai 13 1 12,an 14 13,I 15 2,I 16 0,bT 17 16,ai 18 1 17,an 19 18,I 20 2,bm 21 4 19 20,a0 22 4 21,I 23 0,bT 24 23,ai 25 1 24,an 26 25,I 27 1,bm 28 4 26 27,a0 29 4 28,bm 30 4 9 10,bs 4 30 22,bm 31 4 14 15,bs 4 31 29] [none,none,none,none,none,none,none,none,none,none,none,none,none,none,none,none,none,none,none,none,none,none,none,none,none,(some [9]),none,(some [])] []
def FZ:bu:=⟨32,[],arh⟩
theorem aCE:bC av (bF av vE FZ []) vE=some FZ:=by kernel_rfl
abbrev ari:=J [cD 2 [ae,ae,ae],cn 3 cT] [0,2]
abbrev ark:=J [cD 4 [ae,ae,ae]] [0,2,4]
abbrev arl:=J [a0 8 3 4,bs 3 2 8,cn 3 cT] [2,3]
abbrev arm:=am (J [I 5 0,bB 6 Dw [ad 5],bD 7 .eql 6 0] [0,2,4,7]) (aJ 7 (am arl aR) aE)
abbrev arj:=J [I 9 0,bT 10 9,ai 11 1 10,an 12 11,a3 13 (.mr 4 (ad 12) (bW 0)),ai 14 0 13,a0 15 3 14,bs 3 2 15,cn 3 f5] [2,3]
def FW:bu:=⟨16,[(.cell 2 3 true),(.tmp 3)],f0 ari ark arm arj aR⟩
theorem aCB:bC av (bF av zT FW []) zT=some FW:=by kernel_rfl
abbrev arn:=J [aP 2 0] [0,2]
abbrev ars:=J [I 4 2,a3 5 (.bin .mul .none (bW 2) (ad 4)),bo 6 .add 5 1,I 3 6] [0,2,3]
abbrev art:=am (J [I 7 3,I 8 0,bT 9 8,ai 10 1 9,an 11 10,bE 12 11,bz 13 .geq 7 12] [0,2,3,13]) (aJ 13 aR aE)
abbrev aru:=J [I 29 3,bo 30 .add 29 1,I 3 30] [0,2,3]
abbrev arv:=am (J [I 14 3,bo 15 .add 14 1,I 16 0,bT 17 16,ai 18 1 17,an 19 18,bE 20 19,bz 21 .lss 15 20,aS 22 21,aA 22 (I 23 0),aA 22 (I 24 3),aA 22 (bo 25 .add 24 1),aA 22 (I 26 3),aA 22 (cV 27 xM [ad 23,ad 25,ad 26]),cX 28 22 27] [0,2,3,28]) (aJ 28 aru aE)
abbrev aro:=am (J [I 31 0,I 32 3,I 33 2,cV 34 xM [ad 31,ad 32,ad 33],cQ 35 34] [0,2,3,35]) (aJ 35 aR aE)
abbrev arp:=J [I 36 0,I 37 2,I 38 3,bB 39 vE [ad 36,ad 37,ad 38]] [0,3]
abbrev arq:=J [I 40 3,I 2 40] [0,2]
def FY:bu:=⟨41,[],am arn (bi 0 (cw [0,2] (bi 1 (iB ars art arv aro arp arq))))⟩
theorem aCD:bC av (bF av Dx FY []) Dx=some FY:=by kernel_rfl
abbrev arw:=J [aP 10 0,aP 11 0] [0,1,2,3,4]
abbrev ary:=J [I 23 3,bT 24 23,an 25 24,bo 26 .add 25 1,bT 27 23,bs 1 27 26] [1,2]
abbrev arz:=J [I 28 2,I 29 1,I 10 28,I 11 29] [10,11]
abbrev arA:=am (dq [I 12 4,I 13 0,I 14 2,bm 15 4 13 14,a0 16 4 15,I 17 0,I 18 1,bm 19 4 17 18,a0 20 4 19,a3 21 (.hd (ad 12) [ad 16,ad 20]),bD 22 .lss 21 0] [aa,aa,aa,aa,aa,aa,aa,aa,aa,fA,aa] [1,2,3,22]) (aJ 22 (ct ary arz aR) aE)
abbrev arx:=J [I 30 1,I 31 2,I 10 30,I 11 31] [10,11]
def Gn:bu:=⟨32,[(.tmp 10),(.tmp 11)],cO arw arA arx aR⟩
theorem aDa:bC av (bF av z2 Gn []) z2=some Gn:=by kernel_rfl
abbrev arB:=J [aP 2 0] [0]
abbrev arC:=J [aP 2 0] [2]
abbrev arD:=am (J [I 3 0,dW 4 (.bin .eql .ptr (ad 3) (.const .dm))] [0,4]) (aJ 4 (am arC aR) aE)
abbrev arE:=J [I 5 0,bT 6 5,ai 7 1 6,an 8 7,bE 9 8,I 2 9] [2]
def FV:bu:=⟨10,[(.tmp 2)],cO arB arD arE aR⟩
theorem aCA:bC av (bF av Dw FV []) Dw=some FV:=by kernel_rfl
end Go.aQ.C
namespace Go.aQ.C
open Go.aQ
abbrev ahA:=J [cy 2 9 0,cy 3 10 1,eA 4 fT,aP 5 0] [2,3]
abbrev ahK:=J [a0 11 9 2,a0 12 10 3,bB 13 HM [ad 11,ad 12],I 10 13,dr 14 10 0,dr 15 10 1,cD 6 [cZ,cZ,cZ,cZ,cZ,cZ,ae,ae,ae],bs 9 6 14,I 7 15] [2,3,6,7]
abbrev ahM:=J [a0 18 9 2,a0 19 10 3,bB 20 Ds [ad 18,ad 19],eA 4 fT,I 5 20] [4,5]
abbrev ahN:bc:=bf 8 (am (J [I 16 7,bD 17 .neq 16 0] [2,3,6,17]) (aJ 17 (am ahM aR) aE))
abbrev ahB:=J [eA 4 fT,aP 5 22] [4,5]
abbrev ahC:bc:=bf 13 (am (J [ai 21 3 3,fc 22 21] [2,3,6,22]) (aJ 22 (am ahB aR) aE))
abbrev ahD:bc:=bf 15 (J [ai 24 5 2,a0 25 4 24,bB 26 xJ [ad 25],I 23 26,dr 27 23 0,dr 28 23 1,I 8 27,I 7 28] [3,6,7,8])
abbrev ahE:=J [I 31 7,eA 4 fT,I 5 31] [4,5]
abbrev ahF:bc:=bf 20 (am (J [I 29 7,bD 30 .neq 29 0] [3,6,7,8,30]) (aJ 30 (am ahE aR) aE))
abbrev ahG:bc:=bf 22 (J [a0 32 9 6,a0 33 10 3,a3 34 (.makeMap none),a3 35 (.build [cZ,cZ,cZ,cZ,cZ,cZ,ae,ae,ae,ae,ae,ae,cf,ae,ae,cf,cf,ae,cf,.jB,.dm,cZ] [(0,(9,(ad 32))),(9,(10,(ad 33))),(19,(1,(ad 34)))]),cy 36 22 35,I 9 36] [3,8,9])
abbrev ahH:bc:=bf 24 (J [I 37 9,I 38 9,I 39 9,bT 40 37,ai 41 9 40,ai 42 6 41,lD (.store 1 (ad 42) cT),bT 43 38,ai 44 9 43,ai 45 7 44,lD (.store 1 (ad 45) cT),bT 46 39,ai 47 9 46,ai 48 8 47,lD (.store 1 (ad 48) (bW 0))] [3,8,9])
abbrev ahI:bc:=bf 26 (J [I 49 9,bB 50 HW [.const (.dH kb [])],bT 51 49,ai 52 20 51,bs 1 52 50] [3,8,9])
abbrev ahJ:bc:=bf 28 (J [I 53 9,I 54 8,bB 55 Iw [ad 53,ad 54]] [3,9])
abbrev ahL:bc:=bf 30 (.float [a0 56 10 3,I 57 9,bT 58 57,ai 59 21 58,a3 60 (.ua (ad 59)),bB 61 Is [ad 56,ad 60],I 4 61,aP 5 0] [none,none,none,none,(some [0]),(some []),none,none] [4,5])
def Ci:bu:=⟨62,[(.tmp 4),(.tmp 5)],f0 ahA ahK ahN ahC (iZ ahD ahF ahG ahH ahI ahJ ahL aR)⟩
theorem Sr:bC av (bF av DD Ci [(13,[4])]) DD=some Ci:=by kernel_rfl
abbrev asf:=J [cy 2 13 0,cy 3 13 1,cn 4 cT] [2,3]
abbrev asg:=J [ai 5 8 2,an 6 5,ai 7 8 3,an 8 7,bz 9 .lss 6 8,aS 4 9] [4]
def Cj:bu:=⟨10,[(.tmp 4)],ct asf asg aR⟩
theorem Sq:bC av (bF av kb Cj []) kb=some Cj:=by kernel_rfl
abbrev ash:=dq [I 6 0,I 7 0,bT 8 7,ai 9 9 8,ai 10 0 9,an 11 10,a3 12 (.build [ae,ae,ae,ae,ae,ae,ae,ae] [(0,(1,(.const (.int .i64 0)))),(1,(1,(ad 11)))]),I 13 0,bT 14 13,ai 15 9 14,ai 16 2 15,an 17 16,I 18 1,a3 19 (.build [ae,ae,ae,ae,ae,ae,ae,ae,ae,ae,ae,.dm,cZ] [(0,(8,(ad 12))),(8,(1,(ad 17))),(11,(1,(ad 18)))]),bB 20 zX [ad 6,ad 19]] [aa,aa,aa,aa,aa,aa,aa,aa,aa,aa,aa,aa,aa,aa,fA] [0]
abbrev asi:bc:=bf 3 (am (J [I 21 0,bT 22 21,ai 23 20 22,an 24 23,bB 25 zP [ad 24],bD 26 .gtr 25 0] [0,26]) (aJ 26 aE (b5 0)))
abbrev asj:bc:=bf 5 (J [I 28 0,bT 29 28,ai 30 20 29,an 31 30,bB 32 Dv [ad 31],I 27 32,dr 33 27 0,rA 34 27 1,cD 4 [ae,ae,ae,ae,ae,ae,ae,ae,ae,ae,ae,.dm,cZ],bs 13 4 33,aS 5 34] [0,4])
abbrev asl:bc:=bf 7 (J [I 35 0,a0 36 13 4,bB 37 Iz [ad 35,ad 36]] [0])
def Cr:bu:=⟨38,[],am ash (bi 0 (cw [0] (am asi (bi 1 (am asj asl)))))⟩
theorem SA:bC av (bF av Iw Cr []) Iw=some Cr:=by kernel_rfl
abbrev asm:=J [cy 2 10 0,eA 4 fT] [1,2]
abbrev ast:=J [a3 5 (.pr 4)] [1,2,5]
abbrev asB:=J [I 13 1,bE 14 13,aP 15 0] [1,2,5,13,14,15]
abbrev asE:=J [cc 16 .lss 15 14] [1,2,5,13,14,15,16]
abbrev asn:=J [bm 17 7 13 15,a0 18 7 17,cD 7 [cZ,ae,ae,ae,ae,ae,cZ],bs 7 7 18] [1,2,5,7,13,14,15]
abbrev aso:=J [I 19 5,a0 20 10 2,ai 21 1 7,a0 22 5 21,bB 23 HZ [ad 20,ad 22],a3 24 (.buildSlice [ae,ae,ae,ae] 4 1 [(0,(4,(ad 23)))]),ib 25 4 32 19 24,I 5 25] [1,2,5,13,14,15]
abbrev asp:=J [bo 26 .add 15 1,I 15 26] [1,2,5,13,14,15]
abbrev asq:=J [a3 8 (.pr 7)] [1,5,8]
abbrev asr:bc:=bf 26 (J [a3 27 (.ry (ad 5)),bB 28 Il [ad 27],bE 29 28,aP 30 0] [1,5,8,28,29,30])
abbrev ass:=J [cc 31 .lss 30 29] [1,5,8,28,29,30,31]
abbrev asu:=J [bm 32 4 28 30,a0 33 4 32,cD 10 [ae,ae,ae,ae],bs 4 10 33] [1,5,8,10,28,29,30]
abbrev asv:=J [I 34 1,bE 35 34,aP 36 0] [1,5,8,10,28,29,30,34,35,36]
abbrev asw:=J [cc 37 .lss 36 35] [1,5,8,10,28,29,30,34,35,36,37]
abbrev asx:=J [I 38 36,bm 39 7 34 36,a0 40 7 39,cD 12 [cZ,ae,ae,ae,ae,ae,cZ],I 11 38,bs 7 12 40] [1,5,8,10,11,12,28,29,30,34,35,36]
abbrev asy:=J [I 47 8,a0 48 7 12,a3 49 (.buildSlice [cZ,ae,ae,ae,ae,ae,cZ] 7 1 [(0,(7,(ad 48)))]),ib 50 7 88 47 49,I 8 50] [1,5,8,28,29,30]
abbrev asz:=am (dq [I 41 5,I 42 11,bm 43 4 41 42,a0 44 4 43,a0 45 4 10,dW 46 (.bin .eql (.cells [.int,.int,.int,.int]) (ad 44) (ad 45))] [aa,aa,aa,aa,aa,aa] [1,5,8,10,12,28,29,30,34,35,36,46]) (aJ 46 (am asy (b5 4)) aE)
abbrev asA:=J [bo 51 .add 36 1,I 36 51] [1,5,8,10,28,29,30,34,35,36]
abbrev asC:=J [bo 52 .add 30 1,I 30 52] [1,5,8,28,29,30]
abbrev asD:bc:=bf 65 (J [I 53 8,I 4 53] [4])
def Cl:bu:=⟨54,[(.tmp 4)],tW asm ast (am asB (bi 0 (cw [1,2,5,13,14,15] (cO asE (aJ 16 aE (b5 0)) (bi 1 (am asn aso)) asp)))) asq (am asr (bi 2 (cw [1,5,8,28,29,30] (cO ass (aJ 31 aE (b5 2)) (bi 3 (ct asu asv (bi 4 (cw [1,5,8,10,28,29,30,34,35,36] (cO asw (aJ 37 aE (b5 4)) (bi 5 (am asx asz)) asA))))) asC)))) asD aR⟩
theorem St:bC av (bF av Is Cl [(1,[0]),(7,[0]),(8,[0])]) Is=some Cl:=by kernel_rfl
abbrev avT:=J [cy 3 13 1] [0,3]
abbrev avY:=dq [I 6 0,bT 7 6,ai 8 19 7,an 9 8,ai 10 0 3,a0 11 8 10,a3 12 (.lookup (.cells [.int,.int,.int,.int,.int,.int,.int,.int]) [cZ] false false (ad 9) (ad 11)),bE 13 12,aP 14 0] [aa,aa,aa,aa,aa,aa,aa,aa,aa] [0,3,12,13,14]
abbrev avZ:=J [cc 15 .lss 14 13] [0,3,12,13,14,15]
abbrev av0:=J [bm 16 13 12 14,a0 17 13 16,cD 5 [ae,ae,ae,ae,ae,ae,ae,ae,ae,ae,ae,.dm,cZ],bs 13 5 17] [0,3,5,12,13,14]
abbrev avU:=am (J [a0 18 13 5,a0 19 13 3,cV 20 Ir [ad 18,ad 19]] [0,3,12,13,14,20]) (aJ 20 aR aE)
abbrev avV:=J [bo 21 .add 14 1,I 14 21] [0,3,12,13,14]
abbrev avW:bc:=bf 22 (.float [I 22 0,bT 23 22,ai 24 19 23,an 25 24,ai 26 0 3,a0 27 8 26,a0 29 13 3,a3 30 (.buildSlice [ae,ae,ae,ae,ae,ae,ae,ae,ae,ae,ae,.dm,cZ] 13 1 [(0,(13,(ad 29)))]),a3 31 (.mapEntry (.cells [.int,.int,.int,.int,.int,.int,.int,.int]) (.slice [] .nil) (ad 25) (ad 27)),dr 28 31 0,dr 33 31 1,ib 32 13 120 28 30,lD (.entryStore (ad 25) (ad 33) (ad 32))] [none,none,none,none,none,none,none,none,(some []),none,none,(some [10]),(some [])] [0,3])
abbrev avX:bc:=bf 24 (dq [I 34 0,bT 35 34,ai 36 20 35,an 37 36,a0 38 13 3,bB 39 zQ [ad 37,ad 38]] [aa,aa,aa,aa,aa,fA] [])
abbrev KJ:bc:=bf 25 (am avW avX)
def tn:bu:=⟨40,[],ct avT (am avY (bi 0 (cw [0,3,12,13,14] (cO avZ (aJ 15 aE (b5 0)) (bi 1 (am av0 avU)) avV)))) KJ⟩
theorem Su:bC av (bF av zX tn []) zX=some tn:=by kernel_rfl
abbrev awi:=J [cy 3 13 1] [0,3]
abbrev awr:=J [ai 5 0 3,ai 6 0 5,an 7 6] [0,3,7]
abbrev awv:bc:=bf 5 (J [I 49 0,a0 50 13 3,bB 51 Iu [ad 49,ad 50]] [])
abbrev aww:bc:=bf 7 (J [I 63 0,a0 64 13 3,bB 65 xO [ad 63,ad 64]] [0,3])
abbrev awx:bc:=bf 9 (am (dq [ai 54 0 3,ai 55 1 54,an 56 55,I 57 0,bT 58 57,ai 59 9 58,ai 60 1 59,an 61 60,bz 62 .eql 56 61] [aa,aa,aa,aa,aa,aa,aa,aa,aa] [0,3,62]) (aJ 62 aww aE))
abbrev Qj:bc:=bf 11 (J [I 66 0,a0 67 13 3,ai 68 8 3,an 69 68,bB 70 zY [ad 66,ad 67,ad 69]] [])
abbrev awj:bc:=bf 12 (am awx Qj)
abbrev awk:bc:=bf 14 (J [I 17 0,a0 18 13 3,bB 19 xO [ad 17,ad 18]] [0,3])
abbrev awl:bc:=bf 16 (am (dq [ai 8 0 3,ai 9 1 8,an 10 9,I 11 0,bT 12 11,ai 13 9 12,ai 14 1 13,an 15 14,bz 16 .eql 10 15] [aa,aa,aa,aa,aa,aa,aa,aa,aa] [0,3,16]) (aJ 16 awk aE))
abbrev awm:bc:=bf 18 (J [ai 20 8 3,an 21 20,I 4 21] [0,3,4])
abbrev awn:bc:=bf 20 (dq [I 27 4,I 28 0,bT 29 28,ai 30 0 29,ai 31 0 30,an 32 31,ai 33 0 3,ai 34 1 33,an 35 34,bm 36 4 32 35,ai 37 3 36,an 38 37,cc 39 .add 27 38,I 4 39] [aa,aa,aa,aa,aa,aa,aa,aa,aa,aa,aa,aa,aa,aa] [0,3,4])
abbrev awo:bc:=bf 22 (am (J [I 22 0,bT 23 22,ai 24 9 23,ai 25 9 24,fc 26 25] [0,3,4,26]) (aJ 26 awn aE))
abbrev awp:bc:=bf 24 (J [I 40 0,a0 41 13 3,I 42 4,bB 43 zY [ad 40,ad 41,ad 42]] [0,3])
abbrev awq:bc:=bf 26 (J [I 44 0,a0 45 13 3,bB 46 DF [ad 44,ad 45]] [])
abbrev Qk:bc:=bf 27 (am awp awq)
abbrev Ql:bc:=bf 29 (ct awm awo Qk)
abbrev aws:bc:=bf 30 (am awl Ql)
abbrev awt:bc:=bf 32 (am (J [bD 53 .eql 7 2,aS 52 53] [0,3,52]) (aJ 52 awj aws))
abbrev awu:=am (J [bD 48 .eql 7 1,aS 47 48] [0,3,7,47]) (aJ 47 awv awt)
def Cv:bu:=⟨71,[],ct awi awr (bi 0 awu)⟩
theorem SE:bC av (bF av Iz Cv []) Iz=some Cv:=by kernel_rfl
abbrev aeB:=J [cy 2 13 0,cy 3 13 1,cn 4 cT] [2,3]
abbrev aeC:=J [ai 5 8 2,an 6 5,ai 7 8 3,an 8 7,bz 9 .leq 6 8,aS 10 9,aA 10 (ai 11 9 2),aA 10 (an 12 11),aA 10 (ai 13 9 3),aA 10 (an 14 13),aA 10 (bz 15 .leq 12 14),cX 16 10 15,aS 17 16,aA 17 (ai 18 10 2),aA 17 (an 19 18),aA 17 (ai 20 10 3),aA 17 (an 21 20),aA 17 (bz 22 .leq 19 21),cX 23 17 22,aS 24 23,aA 24 (ai 25 11 2),aA 24 (an 26 25),aA 24 (ai 27 11 3),aA 24 (an 28 27),aA 24 (cV 29 HG [ad 26,ad 28]),cX 30 24 29,aS 4 30] [4]
def Ck:bu:=⟨31,[(.tmp 4)],ct aeB aeC aR⟩
theorem Ss:bC av (bF av Ir Ck []) Ir=some Ck:=by kernel_rfl
abbrev ae1:=J [cy 3 13 1] [0,3]
abbrev ae7:=J [I 6 0,a0 7 13 3,bB 8 Ix [ad 6,ad 7]] [0,3]
abbrev ae8:bc:=bf 5 (am (dq [I 9 0,bT 10 9,ai 11 0 10,ai 12 2 11,an 13 12,ai 14 0 3,ai 15 2 14,an 16 15,bm 17 8 13 16,ai 18 7 17,an 19 18,ai 20 0 3,ai 21 3 20,an 22 21,bm 23 5 19 22,ai 24 4 23,fc 25 24,cQ 26 25] [aa,aa,aa,aa,aa,aa,aa,aa,aa,aa,aa,aa,aa,aa,aa,aa,aa,aa] [0,3,26]) (aJ 26 aR aE))
abbrev ae9:bc:=bf 7 (J [I 36 0,a0 37 13 3,bB 38 xO [ad 36,ad 37]] [0,3])
abbrev ae_:bc:=bf 9 (am (dq [ai 27 0 3,ai 28 1 27,an 29 28,I 30 0,bT 31 30,ai 32 9 31,ai 33 1 32,an 34 33,bz 35 .eql 29 34] [aa,aa,aa,aa,aa,aa,aa,aa,aa] [0,3,35]) (aJ 35 ae9 aE))
abbrev ae2:bc:=bf 11 (J [ai 40 11 3,an 41 40,ai 42 0 3,ai 43 4 42,a0 44 4 43,bB 45 Do [ad 41,ad 44],I 39 45,dr 46 39 0,dr 47 39 1,I 4 46,I 5 47] [0,3,4,5])
abbrev ae3:bc:=bf 13 (am (J [I 48 5,bD 49 .neq 48 0] [0,3,4,49]) (aJ 49 aR aE))
abbrev ae4:bc:=bf 15 (J [I 50 4,ai 51 11 3,bs 1 51 50] [0,3])
abbrev ae5:bc:=bf 17 (dq [I 52 0,a0 53 13 3,ai 54 8 3,an 55 54,I 56 0,bT 57 56,ai 58 0 57,ai 59 0 58,an 60 59,ai 61 0 3,ai 62 1 61,an 63 62,bm 64 4 60 63,ai 65 3 64,an 66 65,cc 67 .add 55 66,bB 68 zY [ad 52,ad 53,ad 67]] [aa,aa,aa,aa,aa,aa,aa,aa,aa,aa,aa,aa,aa,aa,aa,aa,fA] [0,3])
abbrev ae6:bc:=bf 19 (J [I 69 0,a0 70 13 3,bB 71 DF [ad 69,ad 70]] [])
abbrev P7:bc:=bf 23 (f0 ae2 ae3 ae4 ae5 ae6)
def Co:bu:=⟨72,[],f0 ae1 ae7 ae8 ae_ P7⟩
theorem Sx:bC av (bF av Iu Co []) Iu=some Co:=by kernel_rfl
abbrev afa:=J [cy 3 13 1] [0,3]
abbrev afd:bc:=.float [ai 8 12 3,an 9 8,a3 10 (.build [cf,ae,ae,ae,ae,ae,ae,ae,cf] []),bB 11 zZ [ad 9,ad 10],ai 12 12 3,an 13 12,bE 14 13,a3 15 (.slice 9 (ad 11) none (some (ad 14)) none),a3 16 (.build [cZ] [(0,(1,(ad 15)))]),cD 4 [cZ],bs 1 4 16] [none,none,none,none,none,none,none,none,none,(some [0,1,2,3,4,5,6,7,8]),(some [])] [0,4]
abbrev afe:bc:=bf 5 (.float [I 18 0,bT 19 18,ai 20 0 19,a0 21 9 20,I 22 0,bT 23 22,ai 24 9 23,a0 25 10 24,a0 26 1 4,bB 27 HY [ad 21,ad 25,ad 26],I 17 27,dr 28 17 0,dr 29 17 1,dr 30 17 2,cD 5 [ae,ae,ae,ae,ae],bs 5 5 28,I 6 29,I 7 30] [none,none,none,none,none,none,none,none,none,none,none,none,none,none,(some [0,1,2,3,4,5,6,7,8,9,10,11,12,13]),(some [12,13]),none,none] [0,4,5,6,7])
abbrev aff:bc:=bf 7 (.float [I 33 0,I 34 0,bT 35 34,ai 36 21 35,an 37 36,a0 38 1 4,a0 39 5 5,I 40 6,a3 41 (.build [cZ,ae,ae,ae,ae,ae,cZ] [(0,(1,(ad 38))),(1,(5,(ad 39))),(6,(1,(ad 40)))]),a3 42 (.buildSlice [cZ,ae,ae,ae,ae,ae,cZ] 7 1 [(0,(7,(ad 41)))]),ib 43 7 88 37 42,bT 44 33,ai 45 21 44,bs 1 45 43] [none,none,none,none,none,none,none,none,none,none,(some [0]),none,none,(some [])] [])
abbrev afg:bc:=bf 9 (am (J [I 31 7,bD 32 .eql 31 0] [0,4,5,6,32]) (aJ 32 aff aE))
abbrev afb:bc:=bf 10 (am afe afg)
abbrev afc:bc:=bf 11 (am afd afb)
def Cp:bu:=⟨46,[],am afa afc⟩
theorem Sy:bC av (bF av xO Cp [(1,[9998]),(2,[9998]),(4,[9998])]) xO=some Cp:=by kernel_rfl
abbrev afh:=J [cy 4 13 1] [0,2,4]
abbrev afp:=J [I 10 0,bT 11 10,ai 12 0 11,ai 13 2 12,an 14 13,bE 15 14,aP 16 0] [0,2,4,14,15,16]
abbrev afr:bc:=bf 5 (J [cc 17 .lss 16 15] [0,2,4,14,15,16,17])
abbrev afs:bc:=bf 8 (J [I 18 16,bm 19 8 14 16,a0 20 8 19,cD 7 [ae,ae,ae,.str [],ae,cf,cf,cZ],I 6 18,bs 8 7 20] [0,2,4,6,7,14,15,16])
abbrev afi:bc:=bf 10 (J [ai 21 7 7,an 22 21,bE 23 22,aP 24 0] [0,2,4,6,7,14,15,16,22,23,24])
abbrev afj:bc:=bf 12 (J [cc 25 .lss 24 23] [0,2,4,6,7,14,15,16,22,23,24,25])
abbrev afk:bc:=bf 15 (J [I 26 24,bm 27 5 22 24,a0 28 5 27,cD 9 [ae,ae,ae,cf,cf],I 8 26,bs 5 9 28] [0,2,4,6,7,8,9,14,15,16,22,23,24])
abbrev afl:bc:=bf 17 (am (J [ai 29 6 7,fc 30 29,aS 31 30,au 31 (ai 32 3 9),au 31 (fc 33 32),au 31 (cQ 34 33),ck 35 31 34,aS 36 35,au 36 (ai 37 0 9),au 36 (an 38 37),au 36 (ai 39 0 4),au 36 (ai 40 1 39),au 36 (an 41 40),au 36 (bz 42 .neq 38 41),ck 43 36 42,aS 44 43,au 44 (I 45 8),au 44 (bo 46 .add 45 1),au 44 (ai 47 7 7),au 44 (an 48 47),au 44 (bE 49 48),au 44 (bz 50 .eql 46 49),ck 51 44 50] [0,2,4,6,7,8,9,14,15,16,22,23,24,51]) (aJ 51 (b5 3) aE))
abbrev afm:bc:=bf 19 (J [I 70 0,a0 71 13 4,I 72 6,I 73 8,bB 74 It [ad 70,ad 71,ad 72,ad 73]] [0,2,4,6,7,14,15,16,22,23,24])
abbrev afn:bc:=bf 21 (am (J [ai 52 2 9,an 53 52,I 54 2,bz 55 .geq 53 54,aS 56 55,au 56 (ai 57 2 9),au 56 (an 58 57),au 56 (ai 59 8 4),au 56 (an 60 59),au 56 (bz 61 .geq 58 60),au 56 (aS 62 61),aA 62 (I 63 0),aA 62 (a0 64 13 4),aA 62 (I 65 6),aA 62 (I 66 8),aA 62 (cV 67 Iv [ad 63,ad 64,ad 65,ad 66]),au 56 (cX 68 62 67),ck 69 56 68] [0,2,4,6,7,8,14,15,16,22,23,24,69]) (aJ 69 afm aE))
abbrev afo:bc:=bf 26 (J [bo 75 .add 24 1,I 24 75] [0,2,4,6,7,14,15,16,22,23,24])
abbrev afq:bc:=bf 36 (J [bo 76 .add 16 1,I 16 76] [0,2,4,14,15,16])
def Cn:bu:=⟨77,[],ct afh afp (bi 0 (cw [0,2,4,14,15,16] (cO afr (aJ 17 aE (b5 0)) (bi 1 (ct afs afi (bi 2 (cw [0,2,4,6,7,14,15,16,22,23,24] (cO afj (aJ 25 aE (b5 2)) (bi 3 (ct afk afl afn)) afo))))) afq)))⟩
theorem Sv:bC av (bF av zY Cn []) zY=some Cn:=by kernel_rfl
abbrev aft:=J [cy 3 13 1] [0,3]
abbrev afB:=J [I 7 0,bT 8 7,ai 9 0 8,ai 10 4 9,an 11 10,bE 12 11,aP 13 0] [0,3,11,12,13]
abbrev afD:bc:=bf 5 (J [cc 14 .lss 13 12] [0,3,11,12,13,14])
abbrev afE:bc:=bf 8 (J [bm 15 4 11 13,a0 16 4 15,cD 5 [ae,ae,ae,cf],bs 4 5 16] [0,3,5,11,12,13])
abbrev afu:bc:=bf 10 (am (dq [ai 17 0 5,an 18 17,ai 19 0 3,ai 20 1 19,an 21 20,bz 22 .neq 18 21,aS 23 22,au 23 (ai 24 10 3),au 23 (an 25 24),au 23 (ai 26 2 5),au 23 (an 27 26),au 23 (cc 28 .add 25 27),au 23 (I 29 0),au 23 (bT 30 29),au 23 (ai 31 9 30),au 23 (ai 32 5 31),au 23 (an 33 32),au 23 (bz 34 .gtr 28 33),ck 35 23 34,aS 36 35,au 36 (ai 37 8 3),au 36 (an 38 37),au 36 (ai 39 2 5),au 36 (an 40 39),au 36 (cc 41 .add 38 40),au 36 (bD 42 .gtr 41 3155932800),ck 43 36 42] [aa,aa,aa,aa,aa,aa,aa,aa,aa,aa,aa,aa,aa,aa,aa,aa,aa,aa,aa,aa,aa,aa,aa,aa,aa,aa,aa] [0,3,5,11,12,13,43]) (aJ 43 (b5 1) aE))
abbrev afv:bc:=bf 12 (J [a0 44 13 3,cD 6 [ae,ae,ae,ae,ae,ae,ae,ae,ae,ae,ae,.dm,cZ],bs 13 6 44] [0,3,5,6,11,12,13])
abbrev afw:bc:=bf 14 (J [ai 45 1 5,an 46 45,a3 47 (.build [ae,ae,ae,ae,ae,ae,ae,ae] [(0,(1,(.const (.int .i64 2)))),(1,(1,(ad 46)))]),ai 48 0 6,bs 8 48 47] [0,3,5,6,11,12,13])
abbrev afx:bc:=bf 16 (J [ai 49 8 3,an 50 49,ai 51 2 5,an 52 51,cc 53 .add 50 52,ai 54 8 6,bs 1 54 53] [0,3,5,6,11,12,13])
abbrev afy:bc:=bf 18 (J [ai 55 10 3,an 56 55,ai 57 2 5,an 58 57,cc 59 .add 56 58,ai 60 10 6,bs 1 60 59] [0,3,5,6,11,12,13])
abbrev afz:bc:=bf 20 (J [ai 61 12 3,an 62 61,ai 63 0 3,ai 64 1 63,an 65 64,ai 66 1 5,an 67 66,ai 68 8 3,an 69 68,ai 70 8 6,an 71 70,a3 72 (.build [cf,ae,ae,ae,ae,ae,ae,ae,cf] [(4,(1,(ad 65))),(5,(1,(ad 67))),(6,(1,(ad 69))),(7,(1,(ad 71)))]),bB 73 zZ [ad 62,ad 72],ai 74 12 6,bs 1 74 73] [0,3,6,11,12,13])
abbrev afA:bc:=bf 22 (J [I 75 0,a0 76 13 6,bB 77 zX [ad 75,ad 76]] [0,3,11,12,13])
abbrev afC:bc:=bf 32 (J [bo 78 .add 13 1,I 13 78] [0,3,11,12,13])
def Cw:bu:=⟨79,[],ct aft afB (bi 0 (cw [0,3,11,12,13] (cO afD (aJ 14 aE (b5 0)) (bi 1 (iZ afE afu afv afw afx afy afz afA)) afC)))⟩
theorem SF:bC av (bF av DF Cw []) DF=some Cw:=by kernel_rfl
abbrev aib:=J [cy 3 13 1] [0,3]
abbrev aih:=J [I 7 0,bT 8 7,ai 9 0 8,ai 10 3 9,an 11 10,bE 12 11,aP 13 0] [0,3,11,12,13]
abbrev aii:bc:=bf 5 (J [cc 14 .lss 13 12] [0,3,11,12,13,14])
abbrev aij:bc:=bf 8 (J [bm 15 5 11 13,a0 16 5 15,cD 5 [ae,ae,ae,ae,cf],bs 5 5 16] [0,3,5,11,12,13])
abbrev aic:bc:=bf 10 (am (J [ai 17 4 5,fc 18 17,cQ 19 18,aS 20 19,au 20 (ai 21 0 5),au 20 (an 22 21),au 20 (ai 23 0 3),au 20 (ai 24 2 23),au 20 (an 25 24),au 20 (bz 26 .neq 22 25),ck 27 20 26,aS 28 27,au 28 (ai 29 1 5),au 28 (an 30 29),au 28 (ai 31 0 3),au 28 (ai 32 3 31),au 28 (an 33 32),au 28 (bz 34 .neq 30 33),ck 35 28 34] [0,3,5,11,12,13,35]) (aJ 35 (b5 1) aE))
abbrev aid:bc:=bf 12 (.float [I 36 0,bT 37 36,ai 38 0 37,ai 39 2 38,an 40 39,ai 41 2 5,an 42 41,bm 43 8 40 42,a0 44 8 43,cD 6 [ae,ae,ae,.str [],ae,cf,cf,cZ],bs 8 6 44] [none,none,none,none,none,none,none,none,none,(some [0,1,2,3,4,5,6,7,8]),(some [])] [0,3,5,6,11,12,13])
abbrev aie:bc:=bf 14 (J [I 58 0,a0 59 13 3,ai 60 2 5,an 61 60,ai 62 0 3,ai 63 4 62,a0 64 4 63,bB 65 DE [ad 58,ad 59,ad 61,bW 0,f5,ad 64]] [0,3,11,12,13])
abbrev aif:bc:=bf 16 (am (dq [ai 45 6 6,fc 46 45,cQ 47 46,aS 48 47,aA 48 (ai 49 7 6),aA 48 (an 50 49),aA 48 (a3 51 (.mr 5 (ad 50) (bW 0))),aA 48 (ai 52 2 51),aA 48 (an 53 52),aA 48 (ai 54 8 3),aA 48 (an 55 54),aA 48 (bz 56 .geq 53 55),cX 57 48 56] [aa,aa,aa,aa,aa,aa,aa,aa,aa,aa,aa,aa,aa] [0,3,5,11,12,13,57]) (aJ 57 aie aE))
abbrev aig:bc:=bf 22 (J [bo 66 .add 13 1,I 13 66] [0,3,11,12,13])
def Cs:bu:=⟨67,[],ct aib aih (bi 0 (cw [0,3,11,12,13] (cO aii (aJ 14 aE (b5 0)) (bi 1 (cO aij aic aid aif)) aig)))⟩
theorem SB:bC av (bF av Ix Cs []) Ix=some Cs:=by kernel_rfl
abbrev aik:=J [cy 3 9 1,eA 4 fT] [0,3]
abbrev ail:=J [I 6 0,bE 7 6,bo 8 .add 7 1,a3 9 (.makeSlice [cf,ae,ae,ae,ae,ae,ae,ae,cf] 9 72 (bW 0) (ad 8)),I 5 9] [0,3,5]
abbrev aim:bc:=.float [I 10 5,I 11 0,a0 13 9 3,a3 14 (.buildSlice [cf,ae,ae,ae,ae,ae,ae,ae,cf] 9 1 [(0,(9,(ad 13)))]),ib 12 9 72 10 11,ib 15 9 72 12 14,I 4 15] [none,none,none,none,(some [2,3]),(some []),none] [4]
def Cx:bu:=⟨16,[(.tmp 4)],cO aik ail aim aR⟩
theorem SG:bC av (bF av zZ Cx []) zZ=some Cx:=by kernel_rfl
abbrev aiS:=J [cy 5 13 1,cn 8 cT] [0,2,3,5]
abbrev aiX:=J [I 11 0,bT 12 11,ai 13 0 12,ai 14 3 13,an 15 14,bE 16 15,aP 17 0] [2,3,5,15,16,17]
abbrev aiY:bc:=bf 5 (J [cc 18 .lss 17 16] [2,3,5,15,16,17,18])
abbrev aiZ:bc:=bf 8 (J [bm 19 5 15 17,a0 20 5 19,cD 10 [ae,ae,ae,ae,cf],bs 5 10 20] [2,3,5,10,15,16,17])
abbrev aiT:=J [cn 8 f5] [8]
abbrev aiU:bc:=bf 13 (am (J [ai 21 4 10,fc 22 21,cQ 23 22,aS 24 23,aA 24 (ai 25 0 5),aA 24 (ai 26 0 25),aA 24 (an 27 26),aA 24 (bD 28 .eql 27 1),cX 29 24 28,aS 30 29,aA 30 (ai 31 0 10),aA 30 (an 32 31),aA 30 (ai 33 0 5),aA 30 (ai 34 2 33),aA 30 (an 35 34),aA 30 (bz 36 .eql 32 35),cX 37 30 36,aS 38 37,aA 38 (ai 39 1 10),aA 38 (an 40 39),aA 38 (ai 41 0 5),aA 38 (ai 42 3 41),aA 38 (an 43 42),aA 38 (bz 44 .eql 40 43),cX 45 38 44,aS 46 45,aA 46 (ai 47 2 10),aA 46 (an 48 47),aA 46 (I 49 2),aA 46 (bz 50 .eql 48 49),cX 51 46 50,aS 52 51,aA 52 (ai 53 3 10),aA 52 (an 54 53),aA 52 (I 55 3),aA 52 (bz 56 .eql 54 55),cX 57 52 56] [2,3,5,15,16,17,57]) (aJ 57 (am aiT aR) aE))
abbrev aiV:bc:=bf 17 (J [bo 58 .add 17 1,I 17 58] [2,3,5,15,16,17])
abbrev aiW:bc:=bf 25 (J [cn 8 cT] [8])
def Cq:bu:=⟨59,[(.tmp 8)],cO aiS (am aiX (bi 0 (cw [2,3,5,15,16,17] (cO aiY (aJ 18 aE (b5 0)) (bi 1 (am aiZ aiU)) aiV)))) aiW aR⟩
theorem Sz:bC av (bF av Iv Cq []) Iv=some Cq:=by kernel_rfl
abbrev ai0:=J [cy 5 13 1] [0,2,3,5]
abbrev ai6:=am (dq [ai 10 9 5,an 11 10,I 12 0,bT 13 12,ai 14 9 13,ai 15 4 14,an 16 15,bz 17 .eql 11 16] [aa,aa,aa,aa,aa,aa,aa,aa] [0,2,3,5,17]) (aJ 17 aR aE)
abbrev ai7:bc:=bf 5 (J [I 18 0,bT 19 18,ai 20 0 19,ai 21 2 20,an 22 21,I 23 2,bm 24 8 22 23,ai 25 7 24,an 26 25,I 27 3,bm 28 5 26 27,ai 29 2 28,an 30 29,I 8 30] [0,2,3,5,8])
abbrev ai8:bc:=bf 7 (J [ai 31 9 5,an 32 31,bo 33 .add 32 1,ai 34 9 5,bs 1 34 33] [0,2,3,5,8])
abbrev ai9:bc:=bf 9 (J [ai 47 12 5,an 48 47,a3 49 (.mr 9 (ad 48) (bW 0)),a0 50 9 49,cD 9 [cf,ae,ae,ae,ae,ae,ae,ae,cf],bs 9 9 50] [0,2,3,5,8,9])
abbrev ai1:bc:=bf 11 (J [ai 51 6 9,an 52 51,I 53 8,ai 54 7 9,an 55 54,cc 56 .sub 53 55,cc 57 .add 52 56,ai 58 6 9,bs 1 58 57] [0,2,3,5,8,9])
abbrev ai2:bc:=bf 13 (J [I 59 8,ai 60 7 9,bs 1 60 59] [0,2,3,5,8,9])
abbrev ai3:bc:=bf 15 (J [a0 61 9 9,a3 62 (.buildSlice [cf,ae,ae,ae,ae,ae,ae,ae,cf] 9 1 [(0,(9,(ad 61)))]),ai 63 12 5,bs 1 63 62] [0,2,3,5,8])
abbrev ai4:bc:=bf 20 (am (J [ai 35 12 5,an 36 35,bE 37 36,bD 38 .eql 37 1,aS 39 38,aA 39 (ai 40 12 5),aA 39 (an 41 40),aA 39 (a3 42 (.mr 9 (ad 41) (bW 0))),aA 39 (ai 43 0 42),aA 39 (fc 44 43),aA 39 (cQ 45 44),cX 46 39 45] [0,2,3,5,8,46]) (aJ 46 (cO ai9 ai1 ai2 ai3) aE))
abbrev ai5:bc:=bf 22 (J [I 64 0,a0 65 13 5,I 66 2,I 67 3,I 68 8,a3 69 (.build [ae,ae,ae,ae] [(0,(1,(ad 68)))]),bB 70 DE [ad 64,ad 65,ad 66,ad 67,cT,ad 69]] [])
def Cm:bu:=⟨71,[],iB ai0 ai6 ai7 ai8 ai4 ai5⟩
theorem Sw:bC av (bF av It Cm []) It=some Cm:=by kernel_rfl
abbrev amy:=J [cy 7 13 1,cy 11 4 5] [0,2,3,4,7,11]
abbrev amJ:=J [I 16 0,bT 17 16,ai 18 0 17,ai 19 2 18,an 20 19,I 21 2,bm 22 8 20 21,a0 23 8 22,cD 12 [ae,ae,ae,.str [],ae,cf,cf,cZ],bs 8 12 23] [0,2,3,4,7,11,12]
abbrev amO:=dq [ai 24 3 11,an 25 24,I 26 0,bT 27 26,ai 28 0 27,ai 29 1 28,an 30 29,ai 31 4 12,an 32 31,bm 33 3 30 32,ai 34 1 33,an 35 34,a3 36 (.bin .shl .none (bW 1) (ad 35)),cc 37 .or 25 36,ai 38 3 11,bs 1 38 37] [aa,aa,aa,aa,aa,aa,aa,aa,aa,aa,aa,aa,aa,aa,aa,fA] [0,2,3,4,7,11,12]
abbrev amP:=dq [ai 39 2 11,an 40 39,I 41 0,bT 42 41,ai 43 0 42,ai 44 0 43,an 45 44,ai 46 7 12,an 47 46,I 48 3,bm 49 5 47 48,ai 50 0 49,an 51 50,bm 52 4 45 51,ai 53 1 52,an 54 53,a3 55 (.bin .shl .none (bW 1) (ad 54)),cc 56 .or 40 55,ai 57 2 11,bs 1 57 56] [aa,aa,aa,aa,aa,aa,aa,aa,aa,aa,aa,aa,aa,aa,aa,aa,aa,aa,aa,fA] [0,2,3,4,7,11,12]
abbrev amQ:=J [I 58 3,bo 59 .add 58 1,I 13 59] [0,2,3,4,7,11,12,13]
abbrev amz:bc:=bf 11 (am (J [I 60 13,ai 61 7 12,an 62 61,bE 63 62,bz 64 .lss 60 63] [0,2,3,4,7,11,12,13,64]) (aJ 64 aE (b5 0)))
abbrev amA:bc:=bf 13 (J [ai 67 7 12,an 68 67,I 69 13,bm 70 5 68 69,a0 71 5 70,cD 14 [ae,ae,ae,cf,cf],bs 5 14 71] [0,2,3,4,7,11,12,13,14])
abbrev amB:bc:=bf 15 (dq [ai 72 2 11,an 73 72,I 74 0,bT 75 74,ai 76 0 75,ai 77 0 76,an 78 77,ai 79 0 14,an 80 79,bm 81 4 78 80,ai 82 1 81,an 83 82,a3 84 (.bin .shl .none (bW 1) (ad 83)),cc 85 .or 73 84,ai 86 2 11,bs 1 86 85] [aa,aa,aa,aa,aa,aa,aa,aa,aa,aa,aa,aa,aa,aa,aa,fA] [0,2,3,4,7,11,12,13,14])
abbrev amC:bc:=bf 17 (J [ai 87 1 14,an 88 87,ai 89 1 11,bs 1 89 88] [0,2,3,4,7,11,12,13,14])
abbrev amD:bc:=bf 19 (am (J [ai 90 4 14,fc 91 90,cQ 92 91,aS 93 92,aA 93 (I 94 0),aA 93 (I 95 2),aA 93 (I 96 13),aA 93 (cV 97 Iy [ad 94,ad 95,ad 96]),aA 93 (cQ 98 97),cX 99 93 98] [0,2,3,4,7,11,12,13,14,99]) (aJ 99 (b5 1) aE))
abbrev amE:bc:=bf 21 (J [a0 100 13 7,cD 15 [ae,ae,ae,ae,ae,ae,ae,ae,ae,ae,ae,.dm,cZ],bs 13 15 100] [0,2,3,4,7,11,12,13,14,15])
abbrev amF:bc:=bf 23 (J [ai 101 0 14,an 102 101,I 103 2,I 104 13,a0 105 4 11,a3 106 (.build [ae,ae,ae,ae,ae,ae,ae,ae] [(0,(1,(.const (.int .i64 1)))),(1,(1,(ad 102))),(2,(1,(ad 103))),(3,(1,(ad 104))),(4,(4,(ad 105)))]),ai 107 0 15,bs 8 107 106] [0,2,3,4,7,11,12,13,14,15])
abbrev amG:bc:=bf 25 (J [ai 108 1 14,an 109 108,ai 110 8 15,bs 1 110 109] [0,2,3,4,7,11,12,13,14,15])
abbrev amH:bc:=bf 27 (dq [ai 111 12 7,an 112 111,I 113 2,I 114 3,I 115 13,ai 116 7 12,an 117 116,I 118 3,bm 119 5 117 118,ai 120 0 119,an 121 120,ai 122 0 14,an 123 122,ai 124 7 12,an 125 124,I 126 3,bm 127 5 125 126,ai 128 2 127,an 129 128,ai 130 1 14,an 131 130,aS 132 4,a3 133 (.build [cf,ae,ae,ae,ae,ae,ae,ae,cf] [(0,(1,(.const (.bool true)))),(1,(1,(ad 113))),(2,(1,(ad 114))),(3,(1,(ad 115))),(4,(1,(ad 121))),(5,(1,(ad 123))),(6,(1,(ad 129))),(7,(1,(ad 131))),(8,(1,(ad 132)))]),bB 134 zZ [ad 112,ad 133],ai 135 12 15,bs 1 135 134] [aa,aa,aa,aa,aa,aa,aa,aa,aa,aa,aa,aa,aa,aa,aa,aa,aa,aa,aa,aa,aa,aa,aa,fA,aa,fA] [0,2,3,4,7,11,12,13,15])
abbrev amI:bc:=bf 29 (J [I 136 0,a0 137 13 15,bB 138 zX [ad 136,ad 137]] [0,2,3,4,7,11,12,13])
abbrev amK:bc:=bf 30 (am amH amI)
abbrev amL:bc:=bf 31 (am amG amK)
abbrev amM:bc:=bf 32 (am amF amL)
abbrev Qc:bc:=bf 33 (am amE amM)
abbrev amN:=J [I 65 13,bo 66 .add 65 1,I 13 66] [0,2,3,4,7,11,12,13]
def Cu:bu:=⟨139,[],iB amy amJ amO amP amQ (bi 0 (cw [0,2,3,4,7,11,12,13] (ct amz (bi 1 (f0 amA amB amC amD Qc)) amN)))⟩
theorem SD:bC av (bF av DE Cu []) DE=some Cu:=by kernel_rfl
abbrev an1:=J [cn 6 cT] [0,1,2]
abbrev an6:=J [I 9 0,bT 10 9,ai 11 0 10,ai 12 3 11,an 13 12,bE 14 13,aP 15 0] [1,2,13,14,15]
abbrev an7:=J [cc 16 .lss 15 14] [1,2,13,14,15,16]
abbrev an8:=J [bm 17 5 13 15,a0 18 5 17,cD 8 [ae,ae,ae,ae,cf],bs 5 8 18] [1,2,8,13,14,15]
abbrev an2:=J [cn 6 f5] [6]
abbrev an3:=am (J [ai 19 4 8,fc 20 19,aS 21 20,aA 21 (ai 22 0 8),aA 21 (an 23 22),aA 21 (I 24 1),aA 21 (bz 25 .eql 23 24),cX 26 21 25,aS 27 26,aA 27 (ai 28 1 8),aA 27 (an 29 28),aA 27 (I 30 2),aA 27 (bz 31 .eql 29 30),cX 32 27 31] [1,2,13,14,15,32]) (aJ 32 (am an2 aR) aE)
abbrev an4:=J [bo 33 .add 15 1,I 15 33] [1,2,13,14,15]
abbrev an5:=J [cn 6 cT] [6]
def Ct:bu:=⟨34,[(.tmp 6)],cO an1 (am an6 (bi 0 (cw [1,2,13,14,15] (cO an7 (aJ 16 aE (b5 0)) (bi 1 (am an8 an3)) an4)))) an5 aR⟩
theorem SC:bC av (bF av Iy Ct []) Iy=some Ct:=by kernel_rfl
end Go.aQ.C
namespace Go.aQ.C
open Go.aQ
abbrev aiz:=J [cy 2 9 0,cy 3 1 1,eA 4 fT,aP 5 0] [2,3]
abbrev aiJ:=J [a0 15 9 2,bB 16 DA [ad 15],I 14 16,dr 17 14 0,dr 18 14 1,dr 19 14 2,I 6 17,I 7 18,I 8 19] [2,3,8]
abbrev aiP:=J [eA 4 fT,aP 5 21] [4,5]
abbrev aiR:=am (J [I 20 8,bD 21 .neq 20 0] [2,3,21]) (aJ 21 (am aiP aR) aE)
abbrev aiA:=J [cD 9 [cZ]] [2,3,9]
abbrev aiB:=J [a3 22 (.my Dz [ad 2,ad 9]),I 10 22] [2,3,9,10]
abbrev aiC:=J [cn 11 cT] [2,3,9,10,11]
abbrev aiD:=J [ai 23 0 3,an 24 23,bE 25 24,aP 26 0] [2,9,10,11,24,25,26]
abbrev aiE:=J [cc 27 .lss 26 25] [2,9,10,11,24,25,26,27]
abbrev aiF:=J [bm 28 9 24 26,a0 29 9 28,cD 13 [cf,ae,ae,ae,ae,ae,ae,ae,cf],bs 9 13 29] [2,9,10,11,13,24,25,26]
abbrev aiG:=J [eA 4 fT,aP 5 9] [4,5]
abbrev aiH:=am (J [ai 30 0 13,fc 31 30,aS 32 31,aA 32 (a0 33 9 2),aA 32 (a0 34 9 13),aA 32 (cV 35 H2 [ad 33,ad 34]),aA 32 (cQ 36 35),cX 37 32 36] [2,9,10,11,13,24,25,26,37]) (aJ 37 (am aiG aR) aE)
abbrev aiI:=J [eA 4 fT,aP 5 19] [4,5]
abbrev aiK:=am (J [ai 38 8 13,fc 39 38,aS 40 39,aA 40 (ai 41 0 13),aA 40 (fc 42 41),aA 40 (cQ 43 42),aA 40 (aS 44 43),au 44 (aS 45 11),au 44 (cQ 46 45),aA 40 (ck 47 44 46),cX 48 40 47] [2,9,10,13,24,25,26,48]) (aJ 48 (am aiI aR) aE)
abbrev aiL:=J [I 51 10,a0 52 9 13,a3 53 (.hd (ad 51) [ad 52])] [2,9,10,13,24,25,26]
abbrev aiM:=am (J [ai 49 0 13,fc 50 49] [2,9,10,13,24,25,26,50]) (aJ 50 aiL aE)
abbrev aiN:=J [ai 54 0 13,fc 55 54,aS 11 55] [2,9,10,11,24,25,26]
abbrev aiO:=J [bo 56 .add 26 1,I 26 56] [2,9,10,11,24,25,26]
abbrev aiQ:bc:=bf 53 (J [an 57 9,I 4 57,aP 5 0] [4,5])
def BU:bu:=⟨58,[(.tmp 4),(.tmp 5)],iZ aiz (am aiJ aiR) aiA aiB aiC (am aiD (bi 0 (cw [2,9,10,11,24,25,26] (cO aiE (aJ 27 aE (b5 0)) (bi 1 (f0 aiF aiH aiK aiM aiN)) aiO)))) aiQ aR⟩
theorem R8:bC av (bF av Dy BU []) Dy=some BU:=by kernel_rfl
abbrev arK:=J [cy 2 9 0,cy 3 10 1,cD 4 [cZ,cZ,cZ,cZ,cZ,cZ,ae,ae,ae],aP 5 0] [2,3,4]
abbrev arS:=J [a0 12 9 2,a0 13 10 3,bB 14 Ds [ad 12,ad 13],I 6 14] [2,3,4,6]
abbrev arZ:=J [a3 17 (.build [cZ,cZ,cZ,cZ,cZ,cZ,ae,ae,ae] []),I 18 6,bs 9 4 17,I 5 18] [4,5]
abbrev ar3:=am (J [I 15 6,bD 16 .neq 15 0] [2,3,4,6,16]) (aJ 16 (am arZ aR) aE)
abbrev arL:=J [a0 19 9 2,bB 20 DB [ad 19],cD 7 [cZ,cZ,cZ,cZ,cZ,cZ,ae,ae,ae],bs 9 7 20] [2,3,4,7]
abbrev arM:=J [ai 21 2 2,an 22 21,bE 23 22,aP 24 0] [2,3,4,7,22,23,24]
abbrev arN:=J [cc 25 .lss 24 23] [2,3,4,7,22,23,24,25]
abbrev arO:=J [I 26 24,bm 27 8 22 24,a0 28 8 27,cD 9 [ae,ae,ae,.str [],ae,cf,cf,cZ],I 8 26,bs 8 9 28] [2,3,4,7,8,9,22,23,24]
abbrev arP:=dq [ai 29 2 7,an 30 29,I 31 8,a0 32 9 2,a0 33 10 3,a0 34 8 9,cV 35 HQ [ad 32,ad 33,ad 34],cQ 36 35,bm 37 8 30 31,ai 38 6 37,bs 1 38 36] [aa,aa,aa,aa,aa,aa,aa,aa,aa,aa,fA] [2,3,4,7,8,9,22,23,24]
abbrev arQ:=dq [ai 39 2 7,an 40 39,I 41 8,a0 42 9 2,a0 43 10 3,ai 44 7 9,an 45 44,bB 46 HO [ad 42,ad 43,ad 45],bm 47 8 40 41,ai 48 7 47,bs 1 48 46] [aa,aa,aa,aa,aa,aa,aa,aa,aa,aa,fA] [2,3,4,7,22,23,24]
abbrev arR:=J [bo 49 .add 24 1,I 24 49] [2,3,4,7,22,23,24]
abbrev arT:=J [ai 52 4 7,lD (.store 1 (ad 52) fT)] [2,4,7]
abbrev arU:=J [ai 53 4 2,an 54 53,bE 55 54,aP 56 0] [4,7,54,55,56]
abbrev arV:=J [cc 57 .lss 56 55] [4,7,54,55,56,57]
abbrev arW:=J [bm 58 4 54 56,a0 59 4 58,cD 11 [ae,ae,ae,cf],bs 4 11 59] [4,7,11,54,55,56]
abbrev arX:=J [ai 62 4 7,an 63 62,a0 64 4 11,a3 65 (.buildSlice [ae,ae,ae,cf] 4 1 [(0,(4,(ad 64)))]),ib 66 4 32 63 65,ai 67 4 7,bs 1 67 66] [4,7,54,55,56]
abbrev arY:=am (J [ai 60 3 11,fc 61 60] [4,7,11,54,55,56,61]) (aJ 61 arX aE)
abbrev ar0:=J [bo 68 .add 56 1,I 56 68] [4,7,54,55,56]
abbrev Qi:bc:=bf 55 (bi 2 (cw [4,7,54,55,56] (cO arV (aJ 57 aE (b5 2)) (bi 3 (am arW arY)) ar0)))
abbrev ar1:=am (J [ai 50 6 3,fc 51 50] [2,4,7,51]) (aJ 51 (ct arT arU Qi) aE)
abbrev ar2:bc:=bf 61 (J [a0 69 9 7,bs 9 4 69,aP 5 0] [4,5])
def FF:bu:=⟨70,[(.cell 4 9 true),(.tmp 5)],tW arK (am arS ar3) arL (am arM (bi 0 (cw [2,3,4,7,22,23,24] (cO arN (aJ 25 aE (b5 0)) (bi 1 (ct arO arP arQ)) arR)))) ar1 ar2 aR⟩
theorem aCl:bC av (bF av HM FF []) HM=some FF:=by kernel_rfl
abbrev ar4:=J [cy 2 9 0,cy 3 10 1,aP 4 0] [2,3]
abbrev ar9:=J [a0 10 9 2,bB 11 DA [ad 10],I 9 11,dr 12 9 0,dr 13 9 1,dr 14 9 2,I 5 12,I 6 13,I 7 14] [2,3,7]
abbrev ar_:=J [aP 4 21] [4]
abbrev asa:=am (J [I 15 7,bD 16 .neq 15 0] [2,3,16]) (aJ 16 (am ar_ aR) aE)
abbrev ar5:=J [ai 17 0 2,an 18 17,bE 19 18,bo 20 .sub 19 1,I 8 20] [3,8]
abbrev ar6:=J [aP 4 22] [4]
abbrev ar7:=am (J [ai 21 0 3,an 22 21,I 23 8,cV 24 tR [ad 22,bW 0,ad 23],cQ 25 24,aS 26 25,au 26 (ai 27 1 3),au 26 (an 28 27),au 26 (I 29 8),au 26 (cV 30 tR [ad 28,bW 0,ad 29]),au 26 (cQ 31 30),ck 32 26 31,aS 33 32,au 33 (ai 34 2 3),au 33 (an 35 34),au 33 (cV 36 tR [ad 35,bW 0,bW 3155932800]),au 33 (cQ 37 36),ck 38 33 37,aS 39 38,au 39 (ai 40 4 3),au 39 (an 41 40),au 39 (cV 42 tR [ad 41,bW 0,bW 8]),au 39 (cQ 43 42),ck 44 39 43,aS 45 44,au 45 (ai 46 5 3),au 45 (an 47 46),au 45 (cV 48 tR [ad 47,bW 0,bW 86400]),au 45 (cQ 49 48),ck 50 45 49,aS 51 50,au 51 (ai 52 8 3),au 51 (an 53 52),au 51 (cV 54 tR [ad 53,bW 0,bW 255]),au 51 (cQ 55 54),ck 56 51 55,aS 57 56,au 57 (ai 58 9 3),au 57 (fc 59 58),au 57 (aS 60 59),aA 60 (ai 61 3 3),aA 60 (fc 62 61),au 57 (cX 63 60 62),ck 64 57 63] [64]) (aJ 64 (am ar6 aR) aE)
abbrev ar8:=J [aP 4 0] [4]
def FD:bu:=⟨65,[(.tmp 4)],tW ar4 ar9 asa ar5 ar7 ar8 aR⟩
theorem aCj:bC av (bF av Ds FD []) Ds=some FD:=by kernel_rfl
abbrev asR:=J [cy 3 9 0] [1,2,3]
abbrev asX:=J [a0 7 9 1,a0 8 9 3,bB 9 H3 [ad 7,ad 8],a3 10 (.conv .i64 (ad 9)),I 4 10] [1,2,3,4]
abbrev asY:=dq [ai 11 1 1,an 12 11,ai 13 2 1,an 14 13,ai 15 1 3,an 16 15,bm 17 8 14 16,ai 18 4 17,an 19 18,bm 20 3 12 19,ai 21 1 20,an 22 21,a3 23 (.buildSlice [ae] 1 1 [(0,(1,(ad 22)))]),bB 24 Hu [ad 23],a3 25 (.conv .i64 (ad 24)),I 5 25] [aa,aa,aa,aa,aa,aa,aa,aa,aa,aa,aa,aa,aa,fA,aa,aa] [2,3,4,5]
abbrev asZ:=J [an 29 2,ai 30 6 3,an 31 30,ai 32 7 3,an 33 32,I 34 4,I 35 5,a3 36 (.build [ae,ae,ae,ae] [(0,(1,(ad 31))),(1,(1,(ad 33))),(2,(1,(ad 34))),(3,(1,(ad 35)))]),a3 37 (.buildSlice [ae,ae,ae,ae] 4 1 [(0,(4,(ad 36)))]),ib 38 4 32 29 37,bs 1 2 38] []
abbrev asS:=am (J [ai 26 8 3,fc 27 26,cQ 28 27] [2,3,4,5,28]) (aJ 28 (am asZ aR) aE)
abbrev asT:=J [an 39 2,an 40 2,bE 41 40,bo 42 .sub 41 1,bm 43 4 39 42,I 6 43] [3,4,5,6]
abbrev asU:=J [I 44 6,ai 45 7 3,an 46 45,bT 47 44,ai 48 1 47,bs 1 48 46] [4,5,6]
abbrev asV:=J [I 49 6,bT 50 49,ai 51 2 50,an 52 51,I 53 4,cc 54 .or 52 53,bT 55 49,ai 56 2 55,bs 1 56 54] [5,6]
abbrev asW:=J [I 57 6,bT 58 57,ai 59 3 58,an 60 59,I 61 5,cc 62 .or 60 61,bT 63 57,ai 64 3 63,bs 1 64 62] []
def BV:bu:=⟨65,[],iZ asR asX asY asS asT asU asV asW⟩
theorem R7:bC av (bF av Dz BV []) Dz=some BV:=by kernel_rfl
abbrev as0:=J [cy 2 9 0,cy 3 9 1,eA 4 (.const (.int .u64 0))] [2,3]
abbrev as5:=J [eA 5 (.const (.int .u64 0))] [2,3,5]
abbrev as6:=dq [ai 8 2 2,an 9 8,ai 10 1 3,an 11 10,bm 12 8 9 11,ai 13 7 12,an 14 13,ai 15 2 3,an 16 15,ai 17 3 3,an 18 17,bo 19 .add 18 1,a3 20 (.slice 5 (ad 14) (some (ad 16)) (some (ad 19)) none),bE 21 20,aP 22 0] [aa,aa,aa,aa,aa,aa,aa,aa,aa,aa,aa,aa,aa,aa,aa] [2,5,20,21,22]
abbrev as7:=J [cc 23 .lss 22 21] [2,5,20,21,22,23]
abbrev as1:=J [bm 24 5 20 22,a0 25 5 24,cD 7 [ae,ae,ae,cf,cf],bs 5 7 25] [2,5,7,20,21,22]
abbrev as2:=J [I 26 5,ai 27 0 2,an 28 27,ai 29 0 7,an 30 29,bm 31 4 28 30,ai 32 1 31,an 33 32,bB 34 Hw [ad 26,ad 33],I 5 34] [2,5,20,21,22]
abbrev as3:=J [bo 35 .add 22 1,I 22 35] [2,5,20,21,22]
abbrev as4:=J [I 36 5,I 4 36] [4]
def BZ:bu:=⟨37,[(.tmp 4)],f0 as0 as5 (am as6 (bi 0 (cw [2,5,20,21,22] (cO as7 (aJ 23 aE (b5 0)) (bi 1 (am as1 as2)) as3)))) as4 aR⟩
theorem Sb:bC av (bF av H3 BZ []) H3=some BZ:=by kernel_rfl
abbrev as8:=J [eA 2 (.const (.int .u64 0))] [0]
abbrev atc:=J [eA 3 (.const (.int .u64 0))] [0,3]
abbrev atd:=J [I 6 0,bE 7 6,aP 8 0] [3,6,7,8]
abbrev ate:=J [cc 9 .lss 8 7] [3,6,7,8,9]
abbrev as9:=J [bm 10 1 6 8,an 11 10,I 5 11] [3,5,6,7,8]
abbrev as_:=J [I 12 3,I 13 5,bB 14 Di [ad 13],cc 15 .or 12 14,I 3 15] [3,6,7,8]
abbrev ata:=J [bo 16 .add 8 1,I 8 16] [3,6,7,8]
abbrev atb:=J [I 17 3,I 2 17] [2]
def Bo:bu:=⟨18,[(.tmp 2)],f0 as8 atc (am atd (bi 0 (cw [3,6,7,8] (cO ate (aJ 9 aE (b5 0)) (bi 1 (am as9 as_)) ata)))) atb aR⟩
theorem Rz:bC av (bF av Hu Bo []) Hu=some Bo:=by kernel_rfl
abbrev atf:=J [cy 2 9 0,cy 3 9 1,cn 4 cT] [2,3]
abbrev atg:=dq [ai 5 1 3,an 6 5,dW 7 (.bin .leq .none (bW 0) (ad 6)),aS 8 7,aA 8 (ai 9 1 3),aA 8 (an 10 9),aA 8 (ai 11 2 2),aA 8 (an 12 11),aA 8 (bE 13 12),aA 8 (bz 14 .lss 10 13),cX 15 8 14,aS 16 15,aA 16 (ai 17 2 3),aA 16 (an 18 17),aA 16 (dW 19 (.bin .leq .none (bW 0) (ad 18))),cX 20 16 19,aS 21 20,aA 21 (ai 22 2 3),aA 21 (an 23 22),aA 21 (ai 24 3 3),aA 21 (an 25 24),aA 21 (bz 26 .lss 23 25),cX 27 21 26,aS 28 27,aA 28 (ai 29 3 3),aA 28 (an 30 29),aA 28 (ai 31 2 2),aA 28 (an 32 31),aA 28 (ai 33 1 3),aA 28 (an 34 33),aA 28 (bm 35 8 32 34),aA 28 (ai 36 7 35),aA 28 (an 37 36),aA 28 (bE 38 37),aA 28 (bz 39 .lss 30 38),cX 40 28 39,aS 4 40] [aa,aa,aa,aa,aa,aa,aa,aa,aa,aa,aa,aa,aa,aa,aa,aa,aa,aa,aa,aa,aa,aa,aa,aa,aa,aa,aa,aa,aa,aa,aa,aa,aa,aa,aa,aa,aa] [4]
def BY:bu:=⟨41,[(.tmp 4)],ct atf atg aR⟩
theorem Sa:bC av (bF av H2 BY []) H2=some BY:=by kernel_rfl
abbrev avv:=J [cy 1 9 0,cD 2 [cZ,cZ,cZ,cZ,cZ,cZ,ae,ae,ae]] [1,2]
def Xv:List V:=[(.slice [] .nil),(.slice [] .nil),(.slice [] .nil),(.slice [] .nil),(.slice [] .nil),(.slice [] .nil),(.int .i64 0),(.int .i64 0),(.int .i64 0)]
abbrev avB:bc:=.sd 18 Xv [ai 5 0 1,an 6 5,ai 8 1 1,an 9 8,ai 11 2 1,an 12 11,ai 14 3 1,an 15 14,ai 17 4 1,an 18 17,ai 20 5 1,a0 21 4 20,bB 7 Ig [ad 6],bB 10 Ie [ad 9],bB 13 If [ad 12],bB 16 Ib [ad 15],bB 19 Ia [ad 18],a3 22 (.build [cZ,cZ,cZ,cZ,cZ,cZ,ae,ae,ae] [(0,(1,(ad 7))),(1,(1,(ad 10))),(2,(1,(ad 13))),(3,(1,(ad 16))),(4,(1,(ad 19))),(5,(4,(ad 21)))]),cD 3 [cZ,cZ,cZ,cZ,cZ,cZ,ae,ae,ae],bs 9 3 22] [none,none,none,none,none,none,none,none,none,none,none,none,(some [2,3,4,5,6,7,8,9,10,11]),(some [4,5,6,7,8,9,10,11]),(some [6,7,8,9,10,11]),(some [8,9,10,11]),(some [10,11]),none,(some [0,1,2,3,4,5,6,7,8,9,10,11,17]),(some [])] [1,2,3]
abbrev avC:=J [ai 23 2 3,an 24 23,bE 25 24,aP 26 0] [1,2,3,25,26]
abbrev avD:=J [cc 27 .lss 26 25] [1,2,3,25,26,27]
abbrev avw:=J [I 28 26,I 4 28] [1,2,3,4,25,26]
abbrev avx:=dq [ai 29 2 3,an 30 29,I 31 4,ai 32 2 3,an 33 32,I 34 4,bm 35 8 33 34,ai 36 7 35,an 37 36,bB 38 H_ [ad 37],bm 39 8 30 31,ai 40 7 39,bs 1 40 38] [aa,aa,aa,aa,aa,aa,aa,aa,aa,aa,aa,aa,fA] [1,2,3,25,26]
abbrev avy:=J [bo 41 .add 26 1,I 26 41] [1,2,3,25,26]
abbrev avz:=J [ai 42 5 1,ai 43 0 42,an 44 43,bB 45 Ic [ad 44],ai 46 5 3,ai 47 0 46,bs 1 47 45] [2,3]
abbrev avA:=J [a0 48 9 3,bs 9 2 48] [2]
def F2:bu:=⟨49,[(.cell 2 9 true)],iB avv avB (am avC (bi 0 (cw [1,2,3,25,26] (cO avD (aJ 27 aE (b5 0)) (bi 1 (am avw avx)) avy)))) avz avA aR⟩
theorem aCI:bC av (bF av DB F2 [(1,[9999,40018])]) DB=some F2:=by kernel_rfl
abbrev avE:=J [cy 3 9 0,cy 4 10 1,cy 5 8 2,cn 6 cT] [3,4,5]
abbrev avF:=J [ai 8 1 3,an 9 8,ai 10 4 5,an 11 10,bm 12 3 9 11,a0 13 3 12,cD 7 [.str [],ae,cf],bs 3 7 13] [4,5,7]
abbrev avG:=J [a0 14 8 5,a3 15 (.my vB [ad 4]),a3 16 (.my vC [ad 7,ad 4]),a3 17 (.my vD [ad 4,ad 7]),a3 18 (.qS [.gu,.gu,.gu,.gu] 4 [(0,(1,(.const (.dH vA [])))),(1,(1,(ad 15))),(2,(1,(ad 16))),(3,(1,(ad 17)))]),cV 19 HN [ad 14,ad 18],aS 6 19] [6]
def FJ:bu:=⟨20,[(.tmp 6)],cO avE avF avG aR⟩
theorem aCt:bC av (bF av HQ FJ [(2,[5004])]) HQ=some FJ:=by kernel_rfl
abbrev avH:=J [cy 3 9 0,cy 4 10 1,eA 6 fT] [2,3,4]
abbrev avO:=J [a3 7 (.pr 5)] [2,3,4,7]
abbrev avP:=J [I 10 2,bE 11 10,aP 12 0] [3,4,7,10,11,12]
abbrev avQ:=J [cc 13 .lss 12 11] [3,4,7,10,11,12,13]
abbrev avI:=J [bm 14 5 10 12,a0 15 5 14,cD 9 [ae,ae,ae,cf,cf],bs 5 9 15] [3,4,7,9,10,11,12]
abbrev avJ:=J [ai 22 3 9,lD (.store 1 (ad 22) cT),ai 23 4 9,lD (.store 1 (ad 23) cT)] [3,4,7,9,10,11,12]
abbrev avK:=am (J [a0 16 9 3,a0 17 10 4,ai 18 0 9,an 19 18,cV 20 HP [ad 16,ad 17,ad 19],cQ 21 20] [3,4,7,9,10,11,12,21]) (aJ 21 avJ aE)
abbrev avL:=J [I 24 7,a0 25 5 9,a3 26 (.buildSlice [ae,ae,ae,cf,cf] 5 1 [(0,(5,(ad 25)))]),ib 27 5 32 24 26,I 7 27] [3,4,7,10,11,12]
abbrev avM:=J [bo 28 .add 12 1,I 12 28] [3,4,7,10,11,12]
abbrev avN:bc:=bf 29 (J [I 29 7,I 30 7,bE 31 30,I 32 7,bE 33 32,a3 34 (.slice 5 (ad 29) none (some (ad 31)) (some (ad 33))),I 6 34] [6])
def FH:bu:=⟨35,[(.tmp 6)],f0 avH avO (am avP (bi 0 (cw [3,4,7,10,11,12] (cO avQ (aJ 13 aE (b5 0)) (bi 1 (ct avI avK avL)) avM)))) avN aR⟩
theorem aCn:bC av (bF av HO FH [(1,[0])]) HO=some FH:=by kernel_rfl
abbrev avR:=J [cn 6 cT] [0,1,2]
abbrev avS:=J [I 7 0,I 8 1,bz 9 .geq 7 8,aS 10 9,aA 10 (I 11 0),aA 10 (I 12 2),aA 10 (bz 13 .leq 11 12),cX 14 10 13,aS 6 14] [6]
def FE:bu:=⟨15,[(.tmp 6)],ct avR avS aR⟩
theorem aCk:bC av (bF av tR FE []) tR=some FE:=by kernel_rfl
abbrev awy:=J [cy 2 10 0,cy 3 5 1,cD 4 [ae,ae,ae,ae]] [2,3,4]
abbrev awz:=J [ai 6 1 3,an 7 6,ai 8 2 3,an 9 8,ai 10 3 3,an 11 10,ai 12 4 3,an 13 12,a3 14 (.build [ae,ae,ae,ae] [(0,(1,(ad 7))),(1,(1,(ad 9))),(2,(1,(ad 11))),(3,(1,(ad 13)))]),cD 5 [ae,ae,ae,ae],bs 4 5 14] [2,3,4,5]
abbrev awA:=J [ai 17 0 3,an 18 17,a3 19 (.un .neg (ad 18)),a3 20 (.f_ 4 1 (ad 5) (bW 0)),bs 1 20 19] [4,5]
abbrev awB:=am (J [ai 15 3 2,fc 16 15] [3,4,5,16]) (aJ 16 awA aE)
abbrev awC:=J [a0 21 4 5,bs 4 4 21] [4]
def BW:bu:=⟨22,[(.cell 4 4 true)],f0 awy awz awB awC aR⟩
theorem R9:bC av (bF av HZ BW []) HZ=some BW:=by kernel_rfl
abbrev awD:=J [eA 2 fT] [0]
abbrev awI:=J [eA 3 fT] [0,3]
abbrev awJ:=J [I 6 0,bE 7 6,aP 8 0] [3,6,7,8]
abbrev awK:=J [cc 9 .lss 8 7] [3,6,7,8,9]
abbrev awE:=J [bm 10 4 6 8,a0 11 4 10,cD 5 [ae,ae,ae,ae],bs 4 5 11] [3,5,6,7,8]
abbrev awF:=J [I 12 3,a0 13 4 5,bB 14 In [ad 12,ad 13],I 3 14] [3,6,7,8]
abbrev awG:=J [bo 15 .add 8 1,I 8 15] [3,6,7,8]
abbrev awH:bc:=bf 24 (J [I 16 3,I 2 16] [2])
def Cb:bu:=⟨17,[(.tmp 2)],f0 awD awI (am awJ (bi 0 (cw [3,6,7,8] (cO awK (aJ 9 aE (b5 0)) (bi 1 (am awE awF)) awG)))) awH aR⟩
theorem Si:bC av (bF av Il Cb []) Il=some Cb:=by kernel_rfl
abbrev ayE:=J [eA 4 (.const (.int .u64 0))] [0,1]
abbrev ayF:=J [I 5 0,I 6 1,bB 7 Di [ad 6],cc 8 .or 5 7,I 4 8] [4]
def Br:bu:=⟨9,[(.tmp 4)],ct ayE ayF aR⟩
theorem RC:bC av (bF av Hw Br []) Hw=some Br:=by kernel_rfl
abbrev ayG:=J [eA 2 (.const (.int .u64 0))] [0]
abbrev ayH:=J [eA 2 (.const (.int .u64 0))] [2]
abbrev ayI:=am (J [I 3 0,bD 4 .lss 3 0,aS 5 4,au 5 (I 6 0),au 5 (bD 7 .gtr 6 63),ck 8 5 7] [0,8]) (aJ 8 (am ayH aR) aE)
abbrev ayJ:=J [I 9 0,a3 10 (.bin .shl .none (.const (.int .u64 1)) (ad 9)),I 2 10] [2]
def Bt:bu:=⟨11,[(.tmp 2)],cO ayG ayI ayJ aR⟩
theorem RE:bC av (bF av Di Bt []) Di=some Bt:=by kernel_rfl
abbrev azm:=J [eA 4 (.const (.int .u64 0))] [0,1]
abbrev azn:=J [I 5 0,I 6 1,cc 7 .or 5 6,I 4 7] [4]
def Bq:bu:=⟨8,[(.tmp 4)],ct azm azn aR⟩
theorem RB:bC av (bF av Dh Bq []) Dh=some Bq:=by kernel_rfl
abbrev azo:=J [aP 2 0] [0]
abbrev azv:=J [aP 3 0] [0,3]
abbrev azw:=J [I 6 3,I 2 6] [2]
abbrev azx:=am (J [I 4 0,dW 5 (.bin .eql .none (ad 4) (.const (.int .u64 0)))] [0,3,5]) (aJ 5 (am azw aR) aE)
abbrev azp:=J [I 7 0,I 8 0,a3 9 (.bin .sub .none (ad 8) (.const (.int .u64 1))),cc 10 .and 7 9,I 0 10] [0,3]
abbrev azq:=J [I 11 3,bo 12 .add 11 1,I 3 12] [0,3]
abbrev azr:=J [I 6 3,I 2 6] [2]
abbrev azs:=am (J [I 4 0,dW 5 (.bin .eql .none (ad 4) (.const (.int .u64 0)))] [0,3,5]) (aJ 5 (am azr aR) aE)
abbrev azt:=J [I 7 0,I 8 0,a3 9 (.bin .sub .none (ad 8) (.const (.int .u64 1))),cc 10 .and 7 9,I 0 10] [0,3]
abbrev azu:=J [I 11 3,bo 12 .add 11 1,I 3 12] [0,3]
def Bp:bu:=⟨13,[(.tmp 2)],am azo (.scope 0 [0,3] (am azv (am .label (am azx (am azp (am azq (.goto 0)))))) (am aE (am azs (am azt (am azu (.goto 0))))))⟩
theorem RA:bC av (bF av Hv Bp []) Hv=some Bp:=by kernel_rfl
abbrev azy:=J [cn 4 cT] [0,1]
abbrev azz:=J [I 5 0,I 6 1,cc 7 .andNot 5 6,dW 8 (.bin .eql .none (ad 7) (.const (.int .u64 0))),aS 4 8] [4]
def Bs:bu:=⟨9,[(.tmp 4)],ct azy azz aR⟩
theorem RD:bC av (bF av Hx Bs []) Hx=some Bs:=by kernel_rfl
abbrev adZ:=J [eA 2 fT] [0]
abbrev ad0:=J [a3 4 (.buildSlice [] 4 0 []),I 5 0,ib 6 4 40 4 5,I 3 6] [3]
abbrev ad1:=J [I 7 3,I 8 3,bE 9 8,I 10 3,bE 11 10,a3 12 (.slice 4 (ad 7) none (some (ad 9)) (some (ad 11))),I 2 12] [2]
def B8:bu:=⟨13,[(.tmp 2)],cO adZ ad0 ad1 aR⟩
theorem aCT:bC av (bF av Ig B8 []) Ig=some B8:=by kernel_rfl
abbrev ad2:=J [eA 2 fT] [0]
abbrev ad3:=J [a3 4 (.buildSlice [] 3 0 []),I 5 0,ib 6 3 32 4 5,I 3 6] [3]
abbrev ad4:=J [I 7 3,I 8 3,bE 9 8,I 10 3,bE 11 10,a3 12 (.slice 3 (ad 7) none (some (ad 9)) (some (ad 11))),I 2 12] [2]
def B6:bu:=⟨13,[(.tmp 2)],cO ad2 ad3 ad4 aR⟩
theorem aCR:bC av (bF av Ie B6 []) Ie=some B6:=by kernel_rfl
abbrev ad5:=J [eA 2 fT] [0]
abbrev ad6:=J [a3 4 (.buildSlice [] 8 0 []),I 5 0,ib 6 8 80 4 5,I 3 6] [3]
abbrev ad7:=J [I 7 3,I 8 3,bE 9 8,I 10 3,bE 11 10,a3 12 (.slice 8 (ad 7) none (some (ad 9)) (some (ad 11))),I 2 12] [2]
def B7:bu:=⟨13,[(.tmp 2)],cO ad5 ad6 ad7 aR⟩
theorem aCS:bC av (bF av If B7 []) If=some B7:=by kernel_rfl
abbrev ad8:=J [eA 2 fT] [0]
abbrev ad9:=J [a3 4 (.buildSlice [] 5 0 []),I 5 0,ib 6 5 40 4 5,I 3 6] [3]
abbrev ad_:=J [I 7 3,I 8 3,bE 9 8,I 10 3,bE 11 10,a3 12 (.slice 5 (ad 7) none (some (ad 9)) (some (ad 11))),I 2 12] [2]
def B4:bu:=⟨13,[(.tmp 2)],cO ad8 ad9 ad_ aR⟩
theorem aCP:bC av (bF av Ib B4 []) Ib=some B4:=by kernel_rfl
abbrev aea:=J [eA 2 fT] [0]
abbrev aeb:=J [a3 4 (.buildSlice [] 4 0 []),I 5 0,ib 6 4 32 4 5,I 3 6] [3]
abbrev aec:=J [I 7 3,I 8 3,bE 9 8,I 10 3,bE 11 10,a3 12 (.slice 4 (ad 7) none (some (ad 9)) (some (ad 11))),I 2 12] [2]
def B3:bu:=⟨13,[(.tmp 2)],cO aea aeb aec aR⟩
theorem aCO:bC av (bF av Ia B3 []) Ia=some B3:=by kernel_rfl
abbrev aed:=J [eA 2 fT] [0]
abbrev aee:=J [a3 4 (.buildSlice [] 5 0 []),I 5 0,ib 6 5 32 4 5,I 3 6] [3]
abbrev aef:=J [I 7 3,I 8 3,bE 9 8,I 10 3,bE 11 10,a3 12 (.slice 5 (ad 7) none (some (ad 9)) (some (ad 11))),I 2 12] [2]
def B2:bu:=⟨13,[(.tmp 2)],cO aed aee aef aR⟩
theorem aCN:bC av (bF av H_ B2 []) H_=some B2:=by kernel_rfl
abbrev aeg:=J [eA 2 fT] [0]
abbrev aeh:=J [a3 4 (.buildSlice [] 6 0 []),I 5 0,ib 6 6 56 4 5,I 3 6] [3]
abbrev aei:=J [I 7 3,I 8 3,bE 9 8,I 10 3,bE 11 10,a3 12 (.slice 6 (ad 7) none (some (ad 9)) (some (ad 11))),I 2 12] [2]
def B5:bu:=⟨13,[(.tmp 2)],cO aeg aeh aei aR⟩
theorem aCQ:bC av (bF av Ic B5 []) Ic=some B5:=by kernel_rfl
abbrev aej:=J [cy 2 8 0,cn 4 cT] [1,2]
abbrev aeo:=J [I 7 1,bE 8 7,aP 9 0] [2,7,8,9]
abbrev aep:=J [cc 10 .lss 9 8] [2,7,8,9,10]
abbrev aeq:=J [bm 11 1 7 9,an 12 11,I 6 12] [2,6,7,8,9]
abbrev aek:=J [cn 4 cT] [4]
abbrev ael:=am (J [I 13 6,a0 14 8 2,dW 15 (.hd (ad 13) [ad 14]),cQ 16 15] [2,7,8,9,16]) (aJ 16 (am aek aR) aE)
abbrev aem:=J [bo 17 .add 9 1,I 9 17] [2,7,8,9]
abbrev aen:=J [cn 4 f5] [4]
def FG:bu:=⟨18,[(.tmp 4)],cO aej (am aeo (bi 0 (cw [2,7,8,9] (cO aep (aJ 10 aE (b5 0)) (bi 1 (am aeq ael)) aem)))) aen aR⟩
theorem aCm:bC av (bF av HN FG []) HN=some FG:=by kernel_rfl
abbrev aer:=J [cy 1 8 0,cn 2 cT] [1]
abbrev aes:=J [ai 3 6 1,fc 4 3,cQ 5 4,aS 2 5] [2]
def FK:bu:=⟨6,[(.tmp 2)],ct aer aes aR⟩
theorem aCp:bC av (bF av vA FK []) vA=some FK:=by kernel_rfl
abbrev aet:=J [cy 2 8 0,cn 3 cT] [1,2]
abbrev aeu:=J [ai 4 5 2,fc 5 4,aS 6 5,au 6 (ai 7 6 1),au 6 (fc 8 7),au 6 (cQ 9 8),ck 10 6 9,aS 3 10] [3]
def FL:bu:=⟨11,[(.tmp 3)],ct aet aeu aR⟩
theorem aCq:bC av (bF av vB FL []) vB=some FL:=by kernel_rfl
abbrev aev:=J [cy 3 8 0,cn 4 cT] [1,2]
abbrev aew:=J [ai 5 2 1,fc 6 5,aS 7 6,au 7 (ai 8 7 2),au 7 (fc 9 8),au 7 (cQ 10 9),ck 11 7 10,aS 4 11] [4]
def FM:bu:=⟨12,[(.tmp 4)],ct aev aew aR⟩
theorem aCr:bC av (bF av vC FM []) vC=some FM:=by kernel_rfl
abbrev aex:=J [cy 3 8 0,cn 4 cT] [1,2]
abbrev aey:=J [ai 5 8 1,an 6 5,bD 7 .eql 6 0,aS 8 7,au 8 (ai 9 8 1),au 8 (an 10 9),au 8 (ai 11 1 2),au 8 (an 12 11),au 8 (cc 13 .shr 10 12),au 8 (bo 14 .and 13 1),au 8 (bD 15 .eql 14 1),ck 16 8 15,aS 4 16] [4]
def FN:bu:=⟨17,[(.tmp 4)],ct aex aey aR⟩
theorem aCs:bC av (bF av vD FN []) vD=some FN:=by kernel_rfl
abbrev aez:=J [cy 3 9 0,cy 4 10 1,cn 6 cT] [2,3,4]
abbrev aeA:=J [ai 7 0 3,an 8 7,I 9 2,bm 10 4 8 9,ai 11 2 10,fc 12 11,aS 13 12,au 13 (ai 14 6 4),au 13 (fc 15 14),au 13 (cQ 16 15),ck 17 13 16,aS 6 17] [6]
def FI:bu:=⟨18,[(.tmp 6)],ct aez aeA aR⟩
theorem aCo:bC av (bF av HP FI []) HP=some FI:=by kernel_rfl
abbrev afF:=J [cy 3 4 1,eA 4 fT] [0,3]
abbrev afN:=J [I 13 0,I 4 13] [4]
abbrev afW:=am (J [I 10 0,a0 11 4 3,cV 12 Ij [ad 10,ad 11]] [0,3,12]) (aJ 12 (am afN aR) aE)
abbrev afX:=J [aP 5 0] [0,3,5]
abbrev afG:=J [I 14 0,bE 15 14,aP 16 0] [0,3,5,14,15,16]
abbrev afH:=J [cc 17 .lss 16 15] [0,3,5,14,15,16,17]
abbrev afI:=J [bm 18 4 14 16,a0 19 4 18,cD 7 [ae,ae,ae,ae],bs 4 7 19] [0,3,5,7,14,15,16]
abbrev afJ:=J [I 24 0,I 25 5,a0 26 4 7,bm 27 4 24 25,bs 4 27 26] [0,3,5,14,15,16]
abbrev afK:=J [I 28 5,bo 29 .add 28 1,I 5 29] [0,3,5,14,15,16]
abbrev afL:=am (J [a0 20 4 3,a0 21 4 7,cV 22 Ik [ad 20,ad 21],cQ 23 22] [0,3,5,7,14,15,16,23]) (aJ 23 (am afJ afK) aE)
abbrev afM:=J [bo 30 .add 16 1,I 16 30] [0,3,5,14,15,16]
abbrev afO:=J [aP 8 0] [0,3,5,8]
abbrev afP:=am (dq [I 31 8,I 32 5,bz 33 .lss 31 32,aS 34 33,aA 34 (I 35 0),aA 34 (I 36 8),aA 34 (bm 37 4 35 36),aA 34 (a0 38 4 37),aA 34 (a0 39 4 3),aA 34 (bB 40 Ii [ad 38,ad 39]),aA 34 (bD 41 .lss 40 0),cX 42 34 41] [aa,aa,aa,aa,aa,aa,aa,aa,aa,fA,aa,aa] [0,3,5,8,42]) (aJ 42 aE (b5 2))
abbrev afQ:=J [I 43 8,bo 44 .add 43 1,I 8 44] [0,3,5,8]
abbrev afR:bc:=bf 44 (J [I 45 5,I 46 8,cc 47 .sub 45 46,a3 48 (.makeSlice [ae,ae,ae,ae] 4 32 (ad 47) (ad 47)),I 9 48] [0,3,5,8,9])
abbrev afS:bc:=bf 46 (J [I 49 9,I 50 0,I 51 8,I 52 5,a3 53 (.slice 4 (ad 50) (some (ad 51)) (some (ad 52)) none),a3 54 (.copy 4 (ad 49) (ad 53))] [0,3,8,9])
abbrev afT:bc:=bf 48 (.float [I 55 0,I 56 8,I 57 8,a0 59 4 3,a3 60 (.buildSlice [ae,ae,ae,ae] 4 1 [(0,(4,(ad 59)))]),I 62 9,a3 58 (.uq 4 (ad 55) (ad 56) (ad 57)),ib 61 4 32 58 60,ib 63 4 32 61 62,I 4 63] [none,none,none,none,none,none,(some [3,4,5]),(some [5]),(some []),none] [4])
abbrev afU:bc:=bf 49 (am afT aR)
abbrev afV:bc:=bf 50 (am afS afU)
abbrev P8:bc:=bf 51 (am afR afV)
abbrev P9:bc:=bf 53 (ct afO (bi 2 (cw [0,3,5,8] (am afP (bi 3 afQ)))) P8)
def tm:bu:=⟨64,[(.tmp 4)],f0 afF afW afX (am afG (bi 0 (cw [0,3,5,14,15,16] (cO afH (aJ 17 aE (b5 0)) (bi 1 (am afI afL)) afM)))) P9⟩
theorem Sk:bC av (bF av In tm [(16,[3])]) In=some tm:=by kernel_rfl
abbrev ain:=J [cy 3 9 0,cy 4 10 1,cy 5 1 2,cD 6 [ae,ae,ae,ae,ae],eA 7 fT,aP 8 0] [3,4,5,6]
abbrev aiw:=J [a0 16 9 3,a0 17 1 5,bB 18 Dy [ad 16,ad 17],I 15 18,dr 19 15 0,dr 20 15 1,I 9 19,I 10 20] [3,4,5,6,9,10]
abbrev aix:=J [a3 23 (.build [ae,ae,ae,ae,ae] []),I 24 10,bs 5 6 23,eA 7 fT,I 8 24] [6,7,8]
abbrev aiy:=am (J [I 21 10,bD 22 .neq 21 0] [3,4,5,6,9,10,22]) (aJ 22 (am aix aR) aE)
abbrev aio:=J [ai 26 5 3,a0 27 4 26,I 28 9,bB 29 Dk [ad 27,ad 28],I 25 29,dr 30 25 0,dr 31 25 1,dr 32 25 2,I 11 30,I 12 31,I 10 32] [4,5,6,9,10,11,12]
abbrev aip:=J [a3 35 (.build [ae,ae,ae,ae,ae] []),I 36 10,bs 5 6 35,eA 7 fT,I 8 36] [6,7,8]
abbrev aiq:=am (J [I 33 10,bD 34 .neq 33 0] [4,5,6,9,10,11,12,34]) (aJ 34 (am aip aR) aE)
abbrev air:bc:=.float [ai 37 2 4,an 38 37,ai 39 2 4,an 40 39,I 41 9,bE 42 41,I 43 11,a0 44 1 5,bB 45 H0 [ad 44],a3 46 (.build [ae,ae,ae,ae,ae] [(0,(1,(ad 38))),(1,(1,(ad 40))),(2,(1,(ad 42))),(3,(1,(ad 43))),(4,(1,(ad 45)))]),cD 13 [ae,ae,ae,ae,ae],bs 5 13 46] [none,none,none,none,none,none,none,none,none,none,(some [0,1,2,3,4,5,6,7,8,9]),(some [])] [5,6,12,13]
abbrev ais:=J [ai 47 0 5,an 48 47,bE 49 48,I 14 49] [5,6,12,13,14]
abbrev ait:bc:=.float [ai 52 0 5,an 53 52,a3 54 (.mr 9 (ad 53) (bW 0)),ai 55 6 54,an 56 55,ai 57 0 5,an 58 57,I 59 14,bo 60 .sub 59 1,bm 61 9 58 60,ai 62 7 61,an 63 62,ai 64 0 13,bs 1 64 56,ai 65 1 13,bs 1 65 63] [none,none,none,none,none,none,none,none,none,none,none,none,none,(some [5,6,7,8,9,10,11]),none,(some [])] [6,12,13]
abbrev aiu:=am (J [I 50 14,bD 51 .gtr 50 0] [5,6,12,13,14,51]) (aJ 51 ait aE)
abbrev aiv:=J [a0 66 5 13,I 67 12,bs 5 6 66,I 7 67,aP 8 0] [6,7,8]
def BT:bu:=⟨68,[(.cell 6 5 true),(.tmp 7),(.tmp 8)],am ain (iZ aiw aiy aio aiq air (am ais aiu) aiv aR)⟩
theorem R6:bC av (bF av HY BT [(7,[9998]),(10,[9998])]) HY=some BT:=by kernel_rfl
abbrev ai_:=J [cy 3 4 1,cn 4 cT] [0,3]
abbrev ajg:=J [cn 5 cT] [0,3,5]
abbrev ajk:=J [I 9 0,bE 10 9,aP 11 0] [3,5,9,10,11]
abbrev ajt:=J [cc 12 .lss 11 10] [3,5,9,10,11,12]
abbrev aja:=J [bm 13 4 9 11,a0 14 4 13,cD 7 [ae,ae,ae,ae],bs 4 7 14] [3,5,7,9,10,11]
abbrev ajb:=J [aP 15 0] [3,5,7,9,10,11,15]
abbrev ajc:=J [bo 16 .lss 15 4] [3,5,7,9,10,11,15,16]
abbrev ajd:=J [I 17 15,I 8 17] [3,5,7,8,9,10,11,15]
abbrev aje:=am (dq [I 18 8,a3 19 (.f_ 4 1 (ad 7) (ad 18)),an 20 19,I 21 8,a3 22 (.f_ 4 1 (ad 3) (ad 21)),an 23 22,bz 24 .gtr 20 23] [aa,aa,aa,aa,aa,aa,aa] [3,5,7,9,10,11,15,24]) (aJ 24 (b5 1) aE)
abbrev ajf:=J [bo 25 .add 15 1,I 15 25] [3,5,7,9,10,11,15]
abbrev ajh:=J [cn 5 f5] [5]
abbrev aji:=J [bo 26 .add 11 1,I 11 26] [3,5,9,10,11]
abbrev ajj:=J [aS 27 5,aS 4 27] [4]
abbrev ajl:=J [I 9 0,bE 10 9,aP 11 0] [3,5,9,10,11]
abbrev ajm:=J [cc 12 .lss 11 10] [3,5,9,10,11,12]
abbrev ajn:=J [bm 13 4 9 11,a0 14 4 13,cD 7 [ae,ae,ae,ae],bs 4 7 14] [3,5,7,9,10,11]
abbrev ajo:=J [aP 15 0] [3,5,7,9,10,11,15]
abbrev ajp:=J [bo 16 .lss 15 4] [3,5,7,9,10,11,15,16]
abbrev ajq:=J [I 17 15,I 8 17] [3,5,7,8,9,10,11,15]
abbrev ajr:=am (dq [I 18 8,a3 19 (.f_ 4 1 (ad 7) (ad 18)),an 20 19,I 21 8,a3 22 (.f_ 4 1 (ad 3) (ad 21)),an 23 22,bz 24 .gtr 20 23] [aa,aa,aa,aa,aa,aa,aa] [3,5,7,9,10,11,15,24]) (aJ 24 (b5 1) aE)
abbrev ajs:=J [bo 25 .add 15 1,I 15 25] [3,5,7,9,10,11,15]
abbrev aju:=J [cn 5 f5] [5]
abbrev ajv:=J [bo 26 .add 11 1,I 11 26] [3,5,9,10,11]
abbrev ajw:=J [aS 27 5,aS 4 27] [4]
def B_:bu:=⟨28,[(.tmp 4)],am ai_ (.scope 0 [0,3,5] (am ajg (am .label (am (am ajk (bi 0 (cw [3,5,9,10,11] (am ajt (am (aJ 12 aE (b5 0)) (am (bi 1 (am aja (am (am ajb (bi 2 (cw [3,5,7,9,10,11,15] (am ajc (am (aJ 16 aE (b5 2)) (am (bi 3 (am ajd aje)) ajf)))))) (am ajh (b5 0))))) aji)))))) (am ajj aR)))) (am aE (am (am ajl (bi 0 (cw [3,5,9,10,11] (am ajm (am (aJ 12 aE (b5 0)) (am (bi 1 (am ajn (am (am ajo (bi 2 (cw [3,5,7,9,10,11,15] (am ajp (am (aJ 16 aE (b5 2)) (am (bi 3 (am ajq ajr)) ajs)))))) (am aju (b5 0))))) ajv)))))) (am ajw aR))))⟩
theorem Sg:bC av (bF av Ij B_ []) Ij=some B_:=by kernel_rfl
abbrev ajx:=J [cy 2 4 0,cy 3 4 1,cn 4 cT] [2,3]
abbrev ajy:=J [a0 5 4 2,a0 6 4 3,dW 7 (.bin .neq (.cells [.int,.int,.int,.int]) (ad 5) (ad 6)),aS 8 7,aA 8 (a0 9 4 2),aA 8 (a0 10 4 3),aA 8 (cV 11 Im [ad 9,ad 10]),cX 12 8 11,aS 4 12] [4]
def Ca:bu:=⟨13,[(.tmp 4)],ct ajx ajy aR⟩
theorem Sh:bC av (bF av Ik Ca []) Ik=some Ca:=by kernel_rfl
abbrev ajz:=J [cy 2 4 0,cy 3 4 1,aP 4 0] [2,3]
abbrev ajH:=J [aP 4 0] [4]
abbrev ajJ:=am (J [a0 6 4 2,a0 7 4 3,dW 8 (.bin .eql (.cells [.int,.int,.int,.int]) (ad 6) (ad 7))] [2,3,8]) (aJ 8 (am ajH aR) aE)
abbrev ajK:=J [aP 9 0] [2,3,9]
abbrev ajA:=J [bo 10 .lss 9 4] [2,3,9,10]
abbrev ajB:=J [I 11 9,I 5 11] [2,3,5,9]
abbrev ajC:=J [aP 4 (-1)] [4]
abbrev ajD:=am (dq [I 12 5,a3 13 (.f_ 4 1 (ad 2) (ad 12)),an 14 13,I 15 5,a3 16 (.f_ 4 1 (ad 3) (ad 15)),an 17 16,bz 18 .lss 14 17] [aa,aa,aa,aa,aa,aa,aa] [2,3,5,9,18]) (aJ 18 (am ajC aR) aE)
abbrev ajE:=J [aP 4 1] [4]
abbrev ajF:=am (dq [I 19 5,a3 20 (.f_ 4 1 (ad 2) (ad 19)),an 21 20,I 22 5,a3 23 (.f_ 4 1 (ad 3) (ad 22)),an 24 23,bz 25 .gtr 21 24] [aa,aa,aa,aa,aa,aa,aa] [2,3,9,25]) (aJ 25 (am ajE aR) aE)
abbrev ajG:=J [bo 26 .add 9 1,I 9 26] [2,3,9]
abbrev ajI:=J [aP 4 0] [4]
def B9:bu:=⟨27,[(.tmp 4)],f0 ajz ajJ (am ajK (bi 0 (cw [2,3,9] (cO ajA (aJ 10 aE (b5 0)) (bi 1 (ct ajB ajD ajF)) ajG)))) ajI aR⟩
theorem Sf:bC av (bF av Ii B9 []) Ii=some B9:=by kernel_rfl
abbrev amR:=J [cy 1 1 0,aP 2 0] [1]
abbrev amX:=J [aP 3 0] [1,3]
abbrev amY:=J [ai 6 0 1,an 7 6,bE 8 7,aP 9 0] [3,7,8,9]
abbrev amZ:=J [cc 10 .lss 9 8] [3,7,8,9,10]
abbrev amS:=J [bm 11 9 7 9,a0 12 9 11,cD 5 [cf,ae,ae,ae,ae,ae,ae,ae,cf],bs 9 5 12] [3,5,7,8,9]
abbrev amT:=am (J [ai 13 0 5,fc 14 13,aS 15 14,au 15 (ai 16 6 5),au 15 (an 17 16),au 15 (bD 18 .lss 17 0),ck 19 15 18,aS 20 19,au 20 (ai 21 7 5),au 20 (an 22 21),au 20 (ai 23 6 5),au 20 (an 24 23),au 20 (bz 25 .lss 22 24),ck 26 20 25,aS 27 26,au 27 (ai 28 7 5),au 27 (an 29 28),au 27 (ai 30 6 5),au 27 (an 31 30),au 27 (cc 32 .sub 29 31),au 27 (bD 33 .gtr 32 14400),ck 34 27 33] [3,5,7,8,9,34]) (aJ 34 (b5 1) aE)
abbrev amU:=J [I 35 3,ai 36 7 5,an 37 36,ai 38 6 5,an 39 38,cc 40 .sub 37 39,cc 41 .add 35 40,I 3 41] [3,7,8,9]
abbrev amV:=J [bo 42 .add 9 1,I 9 42] [3,7,8,9]
abbrev amW:=J [I 43 3,I 2 43] [2]
def BX:bu:=⟨44,[(.tmp 2)],f0 amR amX (am amY (bi 0 (cw [3,7,8,9] (cO amZ (aJ 10 aE (b5 0)) (bi 1 (ct amS amT amU)) amV)))) amW aR⟩
theorem R_:bC av (bF av H0 BX []) H0=some BX:=by kernel_rfl
abbrev am0:=J [cy 2 4 0,cy 3 4 1,cn 4 cT] [2,3]
abbrev am5:=J [aP 6 0] [2,3,6]
abbrev am6:=J [bo 7 .lss 6 4] [2,3,6,7]
abbrev am7:=J [I 8 6,I 5 8] [2,3,5,6]
abbrev am1:=J [cn 4 cT] [4]
abbrev am2:=am (dq [I 9 5,a3 10 (.f_ 4 1 (ad 2) (ad 9)),an 11 10,I 12 5,a3 13 (.f_ 4 1 (ad 3) (ad 12)),an 14 13,bz 15 .gtr 11 14] [aa,aa,aa,aa,aa,aa,aa] [2,3,6,15]) (aJ 15 (am am1 aR) aE)
abbrev am3:=J [bo 16 .add 6 1,I 6 16] [2,3,6]
abbrev am4:=J [cn 4 f5] [4]
def Cc:bu:=⟨17,[(.tmp 4)],cO am0 (am am5 (bi 0 (cw [2,3,6] (cO am6 (aJ 7 aE (b5 0)) (bi 1 (am am7 am2)) am3)))) am4 aR⟩
theorem Sj:bC av (bF av Im Cc []) Im=some Cc:=by kernel_rfl
end Go.aQ.C
namespace Go.aQ.C
open Go.aQ
abbrev akv:=J [cy 2 4 0,aP 4 0,eA 5 fT,aP 6 0] [1,2]
abbrev akE:=J [a0 11 4 2,I 12 1,bB 13 Dn [ad 11,ad 12],I 7 13] [1,2,7]
abbrev akG:=J [I 16 7,aP 4 0,eA 5 fT,I 6 16] [4,5,6]
abbrev akH:=am (J [I 14 7,bD 15 .neq 14 0] [1,2,7,15]) (aJ 15 (am akG aR) aE)
abbrev akw:=J [a0 17 4 2,I 18 1,bB 19 HD [ad 17,ad 18],cD 8 [cf,ae,ae,ae,ae,ae,ae,cf,ae,ae,ae,ae,ae,ae,cf,ae,ae,ae,ae,ae,ae,cf,ae,ae,ae,ae,ae,ae,cf,ae,ae,ae,ae,ae,ae,cf,ae,ae,ae,ae,ae,ae,cf,ae,ae,ae,ae,ae,ae,cf,ae,ae,ae,ae,ae,ae,cf,ae,ae,ae,ae,ae,ae],bs 63 8 19] [1,2,8]
abbrev akx:=J [aP 4 0,eA 5 fT,aP 6 34] [4,5,6]
abbrev aky:=am (J [a3 20 (.f_ 9 7 (ad 8) (bW 0)),ai 21 0 20,fc 22 21,cQ 23 22] [1,2,8,23]) (aJ 23 (am akx aR) aE)
abbrev akz:=J [a3 9 (.pr 4)] [1,2,8,9]
abbrev akA:=J [aP 10 0] [1,2,8,9,10]
abbrev akB:=am (J [I 24 10,I 25 1,bE 26 25,bz 27 .lss 24 26] [1,2,8,9,10,27]) (aJ 27 aE (b5 0))
abbrev akC:=J [I 34 9,I 35 10,a3 36 (.f_ 9 7 (ad 8) (ad 35)),ai 37 3 36,a0 38 4 37,a3 39 (.buildSlice [ae,ae,ae,ae] 4 1 [(0,(4,(ad 38)))]),ib 40 4 32 34 39,I 9 40] [1,2,8,9,10]
abbrev akD:=J [I 28 10,a3 29 (.f_ 9 7 (ad 8) (ad 28)),ai 30 3 29,ai 31 2 30,an 32 31,bo 33 .add 32 1,I 10 33] [1,2,8,9,10]
abbrev akF:=J [a0 41 4 2,a3 42 (.f_ 9 7 (ad 8) (bW 0)),ai 43 1 42,an 44 43,bB 45 Dl [ad 41,ad 44],I 46 9,I 4 45,I 5 46,aP 6 0] [4,5,6]
def Bu:bu:=⟨47,[(.tmp 4),(.tmp 5),(.tmp 6)],iZ akv (am akE akH) akw aky akz (am akA (bi 0 (cw [1,2,8,9,10] (ct akB (bi 1 akC) akD)))) akF aR⟩
theorem RF:bC av (bF av Dk Bu [(7,[0])]) Dk=some Bu:=by kernel_rfl
abbrev alt:=J [cy 3 4 0,aP 6 0,aP 7 0] [1,2,3]
abbrev alC:=J [a0 14 4 3,I 15 1,bB 16 Dn [ad 14,ad 15],I 8 16] [1,2,3,8]
abbrev alI:=J [I 19 8,aP 6 0,I 7 19] [6,7]
abbrev alJ:=am (J [I 17 8,bD 18 .neq 17 0] [1,2,3,8,18]) (aJ 18 (am alI aR) aE)
abbrev alu:=J [aP 9 0,aP 10 0] [1,2,3,9,10]
abbrev alv:=J [I 20 2,bE 21 20,aP 22 0] [1,3,9,10,20,21,22]
abbrev alw:=J [cc 23 .lss 22 21] [1,3,9,10,20,21,22,23]
abbrev alx:=J [bm 24 4 20 22,a0 25 4 24,cD 12 [ae,ae,ae,ae],bs 4 12 25] [1,3,9,10,12,20,21,22]
abbrev aly:=J [a0 26 4 3,I 27 1,a0 28 4 12,I 29 9,bB 30 HC [ad 26,ad 27,ad 28,ad 29],I 13 30] [1,3,10,12,13,20,21,22]
abbrev alz:=J [I 33 13,aP 6 0,I 7 33] [6,7]
abbrev alA:=am (J [I 31 13,bD 32 .neq 31 0] [1,3,10,12,13,20,21,22,32]) (aJ 32 (am alz aR) aE)
abbrev alB:=J [ai 34 2 12,an 35 34,bo 36 .add 35 1,I 9 36] [1,3,9,10,12,20,21,22]
abbrev alD:=J [I 37 10,ai 38 3 12,an 39 38,cc 40 .add 37 39,I 10 40] [1,3,9,10,20,21,22]
abbrev alE:=J [bo 41 .add 22 1,I 22 41] [1,3,9,10,20,21,22]
abbrev alF:=J [aP 6 0,aP 7 8] [6,7]
abbrev alG:=am (J [I 42 9,I 43 1,bE 44 43,bz 45 .neq 42 44] [3,10,45]) (aJ 45 (am alF aR) aE)
abbrev alH:=J [a0 46 4 3,I 47 10,bB 48 Dl [ad 46,ad 47],I 6 48,aP 7 0] [6,7]
def FA:bu:=⟨49,[(.tmp 6),(.tmp 7)],tW alt (am alC alJ) alu (am alv (bi 0 (cw [1,3,9,10,20,21,22] (cO alw (aJ 23 aE (b5 0)) (bi 1 (cO alx (am aly alA) alB alD)) alE)))) alG alH aR⟩
theorem aCg:bC av (bF av HB FA []) HB=some FA:=by kernel_rfl
abbrev amq:=J [cy 1 4 0,eA 2 (.const .dm),aP 3 0] [1]
abbrev amt:=J [a0 8 4 1,bB 9 zV [ad 8],I 7 9,dr 10 7 0,dr 11 7 1,I 4 10,I 5 11] [1,5]
abbrev amu:=J [eA 2 (.const .dm),aP 3 20] [2,3]
abbrev amv:=am (J [I 12 5,bD 13 .neq 12 0] [1,13]) (aJ 13 (am amu aR) aE)
abbrev amr:=J [a0 14 4 1,cD 6 [cZ,ae,ae,ae],bs 4 6 14] [1,6]
abbrev ams:=J [ai 15 0 1,an 16 15,a3 17 (.append true 6 56 fT (ad 16)),ai 18 0 6,bs 1 18 17] [6]
abbrev Qb:bc:=bf 15 (J [a3 19 (.build [.dm,.dm,ae,ae,ae,ae,ae,ae,ae,ae,ae,ae,ae,ae,ae,ae] [(0,(1,(ad 6)))]),cy 20 16 19,I 2 20,aP 3 0] [2,3])
theorem aAU(P:Program)(Q:Exit->aH->Mem->Prop)(s:aH)(M:Mem):dv P Qb Q s M=@nh P [a3 19 (.build [.dm,.dm,ae,ae,ae,ae,ae,ae,ae,ae,ae,ae,ae,ae,ae,ae] [(0,(1,(ad 6)))]),cy 20 16 19,I 2 20,aP 3 0] M ⟨s,fun aM ah=>Q .normal (gW aM [2,3]) ah⟩:=rfl
def BC:bu:=⟨21,[(.tmp 2),(.tmp 3)],iB amq (am amt amv) amr ams Qb aR⟩
theorem RN:bC av (bF av xJ BC []) xJ=some BC:=by kernel_rfl
abbrev anx:=J [cy 3 4 1,eA 4 (.const .dm),aP 5 0] [0,3]
abbrev anI:=J [eA 4 (.const .dm),aP 5 40] [4,5]
abbrev anQ:=am (J [I 13 0,dW 14 (.bin .eql .ptr (ad 13) (.const .dm))] [0,3,14]) (aJ 14 (am anI aR) aE)
abbrev anS:=J [eA 4 (.const .dm),aP 5 33] [4,5]
abbrev anz:=am (J [I 15 0,bT 16 15,ai 17 6 16,an 18 17,bD 19 .geq 18 8] [0,3,19]) (aJ 19 (am anS aR) aE)
abbrev anA:=dq [I 20 0,bT 21 20,ai 22 0 21,an 23 22,I 24 0,a0 25 4 3,I 26 0,bT 27 26,ai 28 6 27,an 29 28,bo 30 .add 29 1,I 31 0,bT 32 31,ai 33 7 32,a0 34 9 33,a3 35 (.build [.dm,.dm,ae,ae,ae,ae,ae,ae,ae,ae,ae,ae,ae,ae,ae,ae] [(0,(1,(ad 23))),(1,(1,(ad 24))),(2,(4,(ad 25))),(6,(1,(ad 30))),(7,(9,(ad 34)))]),cy 36 16 35,I 6 36] [aa,aa,aa,aa,aa,aa,aa,aa,aa,aa,aa,aa,aa,aa,aa,aa,fA,aa] [0,6]
abbrev anB:=J [I 37 6,bB 38 Dp [ad 37],I 7 38] [0,6,7]
abbrev anC:=J [aP 8 (-1)] [0,6,7,8]
abbrev anD:=J [I 39 7,bE 40 39,aP 41 0] [0,6,7,8,40,41]
abbrev anE:=J [cc 42 .lss 41 40] [0,6,7,8,40,41,42]
abbrev anF:=J [I 43 41,I 9 43] [0,6,7,8,9,40,41]
abbrev anG:=J [I 44 0,bT 45 44,ai 46 0 45,an 47 46,bT 48 47,ai 49 0 48,an 50 49,bE 51 50,aP 52 0] [0,6,7,8,9,40,41,50,51,52]
abbrev anH:=J [cc 53 .lss 52 51] [0,6,7,8,9,40,41,50,51,52,53]
abbrev anJ:=J [bm 54 6 50 52,a0 55 6 54,cD 11 [.str [],ae,ae,ae,ae,ae],bs 6 11 55] [0,6,7,8,9,11,40,41,50,51,52]
abbrev anK:=am (dq [I 56 6,I 57 9,bT 58 56,ai 59 7 58,a3 60 (.f_ 9 1 (ad 59) (ad 57)),an 61 60,bD 62 .lss 61 0,aS 63 62,au 63 (a0 64 6 11),au 63 (I 65 7),au 63 (I 66 9),au 63 (a3 67 (.slice 4 (ad 65) (some (ad 66)) none none)),au 63 (cV 68 zW [ad 64,ad 67]),au 63 (cQ 69 68),ck 70 63 69] [aa,aa,aa,aa,aa,aa,aa,aa,aa,aa,aa,aa,fA,aa,aa] [0,6,7,8,9,11,40,41,50,51,52,70]) (aJ 70 (b5 3) aE)
abbrev anL:bc:=.float [I 71 6,I 72 9,bT 73 71,ai 74 7 73,a3 75 (.f_ 9 1 (ad 74) (ad 72)),an 76 75,I 77 6,a0 78 6 11,I 79 7,I 80 9,bB 81 Dq [ad 77,ad 78,ad 79,ad 80],cc 82 .add 76 81,I 12 82] [none,none,none,none,none,none,none,none,none,none,(some [0,1,2,3,4,5]),none,none] [0,6,7,8,9,12,40,41,50,51,52]
abbrev anM:=J [I 90 12,I 8 90] [0,6,7,8,9,40,41,50,51,52]
abbrev anN:=am (J [I 83 8,bD 84 .lss 83 0,aS 85 84,au 85 (I 86 12),au 85 (I 87 8),au 85 (bz 88 .lss 86 87),ck 89 85 88] [0,6,7,8,9,12,40,41,50,51,52,89]) (aJ 89 anM aE)
abbrev anO:=J [bo 91 .add 52 1,I 52 91] [0,6,7,8,9,40,41,50,51,52]
abbrev anP:=J [bo 92 .add 41 1,I 41 92] [0,6,7,8,40,41]
abbrev anR:=dq [I 93 6,I 94 6,bT 95 94,ai 96 6 95,an 97 96,I 98 8,bT 99 93,ai 100 7 99,a3 101 (.f_ 9 1 (ad 100) (ad 97)),bs 1 101 98] [aa,aa,aa,aa,aa,aa,aa,aa,aa,fA] [6]
abbrev Qd:bc:=bf 65 (J [I 102 6,I 4 102,aP 5 0] [4,5])
theorem aAV(P:Program)(Q:Exit->aH->Mem->Prop)(s:aH)(M:Mem):dv P Qd Q s M=@nh P [I 102 6,I 4 102,aP 5 0] M ⟨s,fun aM ah=>Q .normal (gW aM [4,5]) ah⟩:=rfl
def BE:bu:=⟨103,[(.tmp 4),(.tmp 5)],ct anx anQ (iZ anz anA anB anC (am anD (bi 0 (cw [0,6,7,8,40,41] (cO anE (aJ 42 aE (b5 0)) (bi 1 (ct anF anG (bi 2 (cw [0,6,7,8,9,40,41,50,51,52] (cO anH (aJ 53 aE (b5 2)) (bi 3 (cO anJ anK anL anN)) anO))))) anP)))) anR Qd aR)⟩
theorem RP:bC av (bF av Do BE [(15,[9999])]) Do=some BE:=by kernel_rfl
abbrev aoO:=J [aP 2 0,cn 3 cT] [0]
abbrev aoS:=J [aP 2 0,cn 3 cT] [2,3]
abbrev aoT:=am (dq [I 5 0,dW 6 (.bin .eql .ptr (ad 5) (.const .dm)),aS 7 6,au 7 (I 8 0),au 7 (I 9 0),au 7 (bT 10 9),au 7 (ai 11 6 10),au 7 (an 12 11),au 7 (bT 13 8),au 7 (ai 14 7 13),au 7 (a3 15 (.f_ 9 1 (ad 14) (ad 12))),au 7 (an 16 15),au 7 (bD 17 .lss 16 0),ck 18 7 17] [aa,aa,aa,aa,aa,aa,aa,aa,aa,aa,aa,aa,aa,aa] [0,18]) (aJ 18 (am aoS aR) aE)
abbrev aoU:=dq [I 19 0,I 20 0,bT 21 20,ai 22 6 21,an 23 22,bT 24 19,ai 25 7 24,a3 26 (.f_ 9 1 (ad 25) (ad 23)),an 27 26,I 4 27] [aa,aa,aa,aa,aa,aa,aa,aa,aa,aa] [0,4]
abbrev aoP:=J [I 47 4,I 2 47,cn 3 f5] [2,3]
abbrev aoQ:=am (J [I 28 0,bT 29 28,ai 30 0 29,an 31 30,bT 32 31,ai 33 3 32,an 34 33,bD 35 .eql 34 0,aS 36 35,au 36 (I 37 4),au 36 (I 38 0),au 36 (bT 39 38),au 36 (ai 40 0 39),au 36 (an 41 40),au 36 (bT 42 41),au 36 (ai 43 3 42),au 36 (an 44 43),au 36 (bz 45 .lss 37 44),ck 46 36 45] [0,4,46]) (aJ 46 (am aoP aR) aE)
abbrev aoR:=J [I 48 0,bT 49 48,ai 50 0 49,an 51 50,bT 52 51,ai 53 3 52,an 54 53,I 2 54,cn 3 f5] [2,3]
def FC:bu:=⟨55,[(.tmp 2),(.tmp 3)],f0 aoO aoT (am aoU aoQ) aoR aR⟩
theorem aCi:bC av (bF av HH FC []) HH=some FC:=by kernel_rfl
abbrev ath:=J [cy 2 4 0,aP 4 0] [1,2]
abbrev atl:=J [a0 8 4 2,bB 9 zV [ad 8],I 7 9,dr 10 7 0,dr 11 7 1,I 5 10,I 6 11] [1,6]
abbrev atm:=J [aP 4 20] [4]
abbrev atn:=am (J [I 12 6,bD 13 .neq 12 0] [1,13]) (aJ 13 (am atm aR) aE)
abbrev ati:=J [aP 4 33] [4]
abbrev atj:=am (J [I 14 1,bE 15 14,bD 16 .gtr 15 8] [16]) (aJ 16 (am ati aR) aE)
abbrev atk:=J [aP 4 0] [4]
def BA:bu:=⟨17,[(.tmp 4)],f0 ath (am atl atn) atj atk aR⟩
theorem RL:bC av (bF av Dn BA []) Dn=some BA:=by kernel_rfl
abbrev ato:=J [cy 2 4 0,cy 3 1 1,cD 4 [cf,ae,ae,ae,ae,ae,ae,cf,ae,ae,ae,ae,ae,ae,cf,ae,ae,ae,ae,ae,ae,cf,ae,ae,ae,ae,ae,ae,cf,ae,ae,ae,ae,ae,ae,cf,ae,ae,ae,ae,ae,ae,cf,ae,ae,ae,ae,ae,ae,cf,ae,ae,ae,ae,ae,ae,cf,ae,ae,ae,ae,ae,ae]] [2,3,4]
abbrev aty:=J [cD 5 [cf,ae,ae,ae,ae,ae,ae,cf,ae,ae,ae,ae,ae,ae,cf,ae,ae,ae,ae,ae,ae,cf,ae,ae,ae,ae,ae,ae,cf,ae,ae,ae,ae,ae,ae,cf,ae,ae,ae,ae,ae,ae,cf,ae,ae,ae,ae,ae,ae,cf,ae,ae,ae,ae,ae,ae,cf,ae,ae,ae,ae,ae,ae]] [2,3,4,5]
abbrev atC:=J [an 11 3,bE 12 11,I 6 12] [2,3,4,5,6]
abbrev atE:=J [I 13 6,a3 14 (.f_ 9 7 (ad 5) (ad 13)),ai 15 0 14,lD (.store 1 (ad 15) f5)] [2,3,4,5,6]
abbrev atF:=J [a3 16 (.my xI [ad 2,ad 3,ad 5]),I 7 16] [2,4,5,6,7]
abbrev atp:=J [I 17 6,bo 18 .sub 17 1,I 8 18] [2,4,5,6,7,8]
abbrev atq:=am (J [I 19 8,bD 20 .geq 19 0] [2,4,5,6,7,8,20]) (aJ 20 aE (b5 0))
abbrev atr:=J [I 23 8,I 9 23] [2,4,5,6,7,8,9]
abbrev ats:=am (J [I 24 9,I 25 6,bz 26 .lss 24 25] [2,4,5,6,7,8,9,26]) (aJ 26 aE (b5 2))
abbrev att:=J [ai 29 0 2,an 30 29,bE 31 30,aP 32 0] [2,4,5,6,7,8,9,31,32]
abbrev atu:=J [cc 33 .lss 32 31] [2,4,5,6,7,8,9,31,32,33]
abbrev atv:=J [I 34 32,I 10 34] [2,4,5,6,7,8,9,10,31,32]
abbrev atw:=J [I 40 7,I 41 8,I 42 9,I 43 10,a3 44 (.hd (ad 40) [ad 41,ad 42,ad 43])] [2,4,5,6,7,8,9,31,32]
abbrev atx:=am (J [I 35 9,bo 36 .add 35 1,a3 37 (.f_ 9 7 (ad 5) (ad 36)),ai 38 0 37,fc 39 38] [2,4,5,6,7,8,9,10,31,32,39]) (aJ 39 atw aE)
abbrev atz:=J [bo 45 .add 32 1,I 32 45] [2,4,5,6,7,8,9,31,32]
abbrev atA:=J [I 27 9,bo 28 .add 27 1,I 9 28] [2,4,5,6,7,8,9]
abbrev atB:=J [I 21 8,bo 22 .sub 21 1,I 8 22] [2,4,5,6,7,8]
abbrev atD:=J [a0 46 63 5,bs 63 4 46] [4]
def Bw:bu:=⟨47,[(.cell 4 63 true)],iZ ato aty atC atE atF (am atp (bi 0 (cw [2,4,5,6,7,8] (ct atq (bi 1 (am atr (bi 2 (cw [2,4,5,6,7,8,9] (ct ats (bi 3 (am att (bi 4 (cw [2,4,5,6,7,8,9,31,32] (cO atu (aJ 33 aE (b5 4)) (bi 5 (am atv atx)) atz))))) atA))))) atB)))) atD aR⟩
theorem RI:bC av (bF av HD Bw []) HD=some Bw:=by kernel_rfl
abbrev atG:=J [cy 2 4 0,aP 4 0] [1,2]
abbrev atH:=J [ai 14 3 2,an 15 14,I 4 15] [4]
abbrev atI:=am (J [ai 5 3 2,an 6 5,bD 7 .gtr 6 0,aS 8 7,aA 8 (I 9 1),aA 8 (ai 10 3 2),aA 8 (an 11 10),aA 8 (bz 12 .gtr 9 11),cX 13 8 12] [1,2,13]) (aJ 13 (am atH aR) aE)
abbrev atJ:=J [I 16 1,I 4 16] [4]
def Bv:bu:=⟨17,[(.tmp 4)],cO atG atI atJ aR⟩
theorem RG:bC av (bF av Dl Bv []) Dl=some Bv:=by kernel_rfl
abbrev atK:=J [cy 4 4 0,cy 6 4 2,aP 8 0] [1,3,4,6]
abbrev atR:=J [aP 8 9] [8]
abbrev atS:=J [aP 8 8] [8]
abbrev atT:=J [aP 8 34] [8]
abbrev atL:=am (dq [ai 41 0 4,an 42 41,ai 43 0 6,an 44 43,bm 45 6 42 44,a0 46 6 45,I 47 1,ai 48 1 6,an 49 48,ai 50 2 6,an 51 50,bo 52 .add 51 1,a3 53 (.slice 4 (ad 47) (some (ad 49)) (some (ad 52)) none),cV 54 zW [ad 46,ad 53],cQ 55 54,aS 40 55] [aa,aa,aa,aa,aa,aa,aa,aa,aa,aa,aa,aa,aa,fA,aa,aa] [1,4,6,40]) (aJ 40 (am atT aR) aE)
abbrev atM:=am (J [ai 22 1 6,an 23 22,I 24 3,bz 25 .neq 23 24,aS 26 25,au 26 (ai 27 2 6),au 26 (an 28 27),au 26 (ai 29 1 6),au 26 (an 30 29),au 26 (bz 31 .lss 28 30),ck 32 26 31,aS 33 32,au 33 (ai 34 2 6),au 33 (an 35 34),au 33 (I 36 1),au 33 (bE 37 36),au 33 (bz 38 .geq 35 37),ck 39 33 38,aS 21 39] [1,4,6,21]) (aJ 21 (am atS aR) atL)
abbrev atN:=am (J [ai 10 0 6,an 11 10,bD 12 .lss 11 0,aS 13 12,au 13 (ai 14 0 6),au 13 (an 15 14),au 13 (ai 16 0 4),au 13 (an 17 16),au 13 (bE 18 17),au 13 (bz 19 .geq 15 18),ck 20 13 19,aS 9 20] [1,3,4,6,9]) (aJ 9 (am atR aR) atM)
abbrev atO:=J [aP 8 1] [8]
abbrev atP:=am (dq [a0 56 4 6,ai 57 0 6,an 58 57,ai 59 1 6,an 60 59,ai 61 2 6,an 62 61,a0 63 4 4,ai 64 0 4,an 65 64,ai 66 0 6,an 67 66,bm 68 6 65 67,a0 69 6 68,I 70 1,ai 71 1 6,an 72 71,bB 73 Dm [ad 63,ad 69,ad 70,ad 72],a3 74 (.build [ae,ae,ae,ae] [(0,(1,(ad 58))),(1,(1,(ad 60))),(2,(1,(ad 62))),(3,(1,(ad 73)))]),dW 75 (.bin .neq (.cells [.int,.int,.int,.int]) (ad 56) (ad 74))] [aa,aa,aa,aa,aa,aa,aa,aa,aa,aa,aa,aa,aa,aa,aa,aa,aa,aa,aa,aa] [75]) (aJ 75 (am atO aR) aE)
abbrev atQ:=J [aP 8 0] [8]
def FB:bu:=⟨76,[(.tmp 8)],f0 atK (bi 0 atN) atP atQ aR⟩
theorem aCh:bC av (bF av HC FB []) HC=some FB:=by kernel_rfl
abbrev atU:=J [cy 1 4 0,aP 2 0,aP 3 0] [1]
abbrev at3:=J [aP 2 (-1),aP 3 2] [2,3]
abbrev aua:=am (J [ai 7 1 1,an 8 7,cV 9 rp [ad 8,bW 0,bW 1000000],cQ 10 9,aS 11 10,au 11 (ai 12 2 1),au 11 (an 13 12),au 11 (cV 14 rp [ad 13,bW 0,bW 86400]),au 11 (cQ 15 14),ck 16 11 15,aS 17 16,au 17 (ai 18 3 1),au 17 (an 19 18),au 17 (cV 20 rp [ad 19,bW 0,bW 1000000]),au 17 (cQ 21 20),ck 22 17 21] [1,22]) (aJ 22 (am at3 aR) aE)
abbrev aub:=J [aP 2 0,aP 3 5] [2,3]
abbrev atV:=am (J [ai 23 0 1,an 24 23,bE 25 24,bD 26 .gtr 25 16] [1,26]) (aJ 26 (am aub aR) aE)
abbrev atW:=J [a3 27 (.makeMap none),I 4 27] [1,4]
abbrev atX:=J [ai 28 0 1,an 29 28,bE 30 29,aP 31 0] [4,29,30,31]
abbrev atY:=J [cc 32 .lss 31 30] [4,29,30,31,32]
abbrev atZ:=J [I 33 31,bm 34 6 29 31,a0 35 6 34,cD 6 [.str [],ae,ae,ae,ae,ae],I 5 33,bs 6 6 35] [4,5,6,29,30,31]
abbrev at0:=J [I 40 5,I 2 40,aP 3 12] [2,3]
abbrev at1:=am (J [ai 36 0 6,an 37 36,cV 38 xN [ad 37],cQ 39 38] [4,5,6,29,30,31,39]) (aJ 39 (am at0 aR) aE)
abbrev at2:=J [I 45 5,I 2 45,aP 3 6] [2,3]
abbrev at4:=am (J [I 41 4,ai 42 0 6,an 43 42,dW 44 (.lookup .str [cf] false false (ad 41) (ad 43))] [4,5,6,29,30,31,44]) (aJ 44 (am at2 aR) aE)
abbrev at5:=J [I 74 5,I 2 74,aP 3 2] [2,3]
abbrev at6:=am (J [ai 46 1 6,an 47 46,cV 48 rp [ad 47,bW 0,bW 1000000],cQ 49 48,aS 50 49,au 50 (ai 51 2 6),au 50 (an 52 51),au 50 (cV 53 rp [ad 52,bW 1,bW 8]),au 50 (cQ 54 53),ck 55 50 54,aS 56 55,au 56 (ai 57 3 6),au 56 (an 58 57),au 56 (cV 59 rp [ad 58,bW 1,bW 16]),au 56 (cQ 60 59),ck 61 56 60,aS 62 61,au 62 (ai 63 4 6),au 62 (an 64 63),au 62 (cV 65 rp [ad 64,bW 0,bW 86400]),au 62 (cQ 66 65),ck 67 62 66,aS 68 67,au 68 (ai 69 5 6),au 68 (an 70 69),au 68 (cV 71 rp [ad 70,bW 1,bW 255]),au 68 (cQ 72 71),ck 73 68 72] [4,5,6,29,30,31,73]) (aJ 73 (am at5 aR) aE)
abbrev at7:=J [I 75 4,ai 76 0 6,an 77 76,lD (.mapUpdate .str (ad 75) (ad 77) f5)] [4,29,30,31]
abbrev at8:=J [bo 78 .add 31 1,I 31 78] [4,29,30,31]
abbrev at9:=J [aP 2 0,aP 3 0] [2,3]
def Cd:bu:=⟨79,[(.tmp 2),(.tmp 3)],tW atU aua atV atW (am atX (bi 0 (cw [4,29,30,31] (cO atY (aJ 32 aE (b5 0)) (bi 1 (f0 atZ at1 at4 at6 at7)) at8)))) at9 aR⟩
theorem Sl:bC av (bF av zV Cd []) zV=some Cd:=by kernel_rfl
abbrev auc:=J [eA 2 fT] [0]
abbrev aug:=J [I 5 0,bT 6 5,ai 7 6 6,an 8 7,a3 9 (.makeSlice [ae,ae,ae,ae] 4 32 (ad 8) (ad 8)),I 3 9] [0,3]
abbrev auh:=J [I 10 0,bT 11 10,ai 12 6 11,an 13 12,bo 14 .sub 13 1,I 4 14] [0,3,4]
abbrev aui:=am (J [I 15 4,bD 16 .geq 15 0] [0,3,4,16]) (aJ 16 aE (b5 0))
abbrev auj:=J [I 19 3,I 20 4,I 21 0,bT 22 21,ai 23 2 22,a0 24 4 23,bm 25 4 19 20,bs 4 25 24] [0,3,4]
abbrev aud:=J [I 26 0,bT 27 26,ai 28 1 27,an 29 28,I 0 29] [0,3,4]
abbrev aue:=J [I 17 4,bo 18 .sub 17 1,I 4 18] [0,3,4]
abbrev auf:=J [I 30 3,I 2 30] [2]
def BF:bu:=⟨31,[(.tmp 2)],f0 auc aug (am auh (bi 0 (cw [0,3,4] (ct aui (bi 1 (am auj aud)) aue)))) auf aR⟩
theorem RQ:bC av (bF av Dp BF []) Dp=some BF:=by kernel_rfl
abbrev auk:=J [cy 2 6 0,cn 4 cT] [1,2]
abbrev aus:=J [I 11 1,bE 12 11,I 5 12] [1,2,5]
abbrev auu:=J [cn 4 cT] [4]
abbrev auv:=am (dq [I 13 5,bD 14 .eql 13 0,aS 15 14,au 15 (I 16 5),au 15 (ai 17 2 2),au 15 (an 18 17),au 15 (bz 19 .gtr 16 18),ck 20 15 19,aS 21 20,au 21 (I 22 1),au 21 (a3 23 (.mr 4 (ad 22) (bW 0))),au 21 (ai 24 0 23),au 21 (an 25 24),au 21 (I 26 1),au 21 (I 27 5),au 21 (bo 28 .sub 27 1),au 21 (bm 29 4 26 28),au 21 (ai 30 0 29),au 21 (an 31 30),au 21 (ai 32 4 2),au 21 (an 33 32),au 21 (cV 34 Io [ad 25,ad 31,ad 33]),ck 35 21 34] [aa,aa,aa,aa,aa,aa,aa,aa,aa,aa,aa,aa,aa,aa,aa,aa,aa,aa,aa,aa,aa,fA,aa] [1,2,35]) (aJ 35 (am auu aR) aE)
abbrev aul:=J [cD 6 [.int .u64 0],cD 7 [.int .u64 0]] [1,2,6,7]
abbrev aum:=J [a3 36 (.my DC [ad 6,ad 7]),I 8 36] [1,2,6,7,8]
abbrev aun:=J [I 37 1,bE 38 37,aP 39 0] [2,6,7,8,37,38,39]
abbrev auo:=J [cc 40 .lss 39 38] [2,6,7,8,37,38,39,40]
abbrev aup:=J [bm 41 4 37 39,a0 42 4 41,cD 10 [ae,ae,ae,ae],bs 4 10 42] [2,6,7,8,10,37,38,39]
abbrev auq:=J [I 43 8,a0 44 4 10,a3 45 (.hd (ad 43) [ad 44])] [2,6,7,8,37,38,39]
abbrev aur:=J [bo 46 .add 39 1,I 39 46] [2,6,7,8,37,38,39]
abbrev aut:=dq [an 47 6,bB 48 Hv [ad 47],ai 49 3 2,an 50 49,bz 51 .leq 48 50,aS 52 51,aA 52 (an 53 7),aA 52 (ai 54 5 2),aA 52 (an 55 54),aA 52 (a3 56 (.conv .u64 (ad 55))),aA 52 (cV 57 Hx [ad 53,ad 56]),cX 58 52 57,aS 4 58] [aa,aa,aa,aa,aa,aa,aa,aa,aa,aa,fA,aa,aa] [4]
def Ce:bu:=⟨59,[(.tmp 4)],iZ auk aus auv aul aum (am aun (bi 0 (cw [2,6,7,8,37,38,39] (cO auo (aJ 40 aE (b5 0)) (bi 1 (am aup auq)) aur)))) aut aR⟩
theorem Sn:bC av (bF av zW Ce []) zW=some Ce:=by kernel_rfl
abbrev auw:=J [cy 5 6 1,aP 8 0] [0,2,3,5]
abbrev aux:=dq [ai 32 1 5,an 33 32,I 34 0,bT 35 34,ai 36 0 35,an 37 36,bT 38 37,ai 39 1 38,an 40 39,cc 41 .sub 33 40,a3 42 (.nI true (bW 0) (ad 41)),I 8 42] [aa,aa,aa,aa,aa,aa,aa,aa,aa,aa,aa,aa] [8]
abbrev auy:=am (dq [I 9 3,bD 10 .gtr 9 0,aS 11 10,aA 11 (I 12 2),aA 11 (I 13 3),aA 11 (bo 14 .sub 13 1),aA 11 (bm 15 4 12 14),aA 11 (ai 16 1 15),aA 11 (an 17 16),aA 11 (I 18 2),aA 11 (I 19 3),aA 11 (bm 20 4 18 19),aA 11 (ai 21 0 20),aA 11 (an 22 21),aA 11 (I 23 0),aA 11 (bT 24 23),aA 11 (ai 25 0 24),aA 11 (an 26 25),aA 11 (bT 27 26),aA 11 (ai 28 2 27),aA 11 (an 29 28),aA 11 (cV 30 HL [ad 17,ad 22,ad 29]),cX 31 11 30] [aa,aa,aa,aa,aa,aa,aa,aa,aa,aa,aa,aa,aa,aa,aa,aa,aa,aa,aa,aa,aa,fA,aa] [0,5,31]) (aJ 31 (am aux aR) aE)
abbrev auz:=J [ai 43 1 5,an 44 43,I 8 44] [8]
def BG:bu:=⟨45,[(.tmp 8)],cO auw auy auz aR⟩
theorem RR:bC av (bF av Dq BG []) Dq=some BG:=by kernel_rfl
abbrev ayK:=am (dq [ai 12 0 3,an 13 12,I 14 2,bm 15 6 13 14,a0 16 6 15,an 17 4,I 18 0,I 19 1,bo 20 .add 19 1,a3 21 (.slice 4 (ad 17) (some (ad 18)) (some (ad 20)) none),cV 22 zW [ad 16,ad 21],cQ 23 22] [aa,aa,aa,aa,aa,aa,aa,aa,aa,aa,fA,aa] [0,1,2,3,4,5,23]) (aJ 23 aR aE)
abbrev ayL:=dq [a0 24 4 3,ai 25 0 3,an 26 25,I 27 2,bm 28 6 26 27,a0 29 6 28,an 30 4,I 31 0,bB 32 Dm [ad 24,ad 29,ad 30,ad 31],I 9 32] [aa,aa,aa,aa,aa,aa,aa,aa,fA,aa] [0,1,2,5,9]
abbrev ayM:=dq [I 33 9,I 34 1,bo 35 .add 34 1,a3 36 (.f_ 9 7 (ad 5) (ad 35)),ai 37 1 36,an 38 37,cc 39 .add 33 38,I 40 1,bo 41 .add 40 1,a3 42 (.f_ 9 7 (ad 5) (ad 41)),ai 43 2 42,an 44 43,bo 45 .add 44 1,I 10 39,I 11 45] [aa,aa,aa,aa,aa,aa,aa,aa,aa,aa,aa,aa,aa,aa,aa] [0,1,2,5,9,10,11]
abbrev ayN:=J [I 52 0,I 53 10,I 54 11,I 55 2,I 56 0,I 57 1,I 58 9,a3 59 (.build [ae,ae,ae,ae] [(0,(1,(ad 55))),(1,(1,(ad 56))),(2,(1,(ad 57))),(3,(1,(ad 58)))]),a3 60 (.build [cf,ae,ae,ae,ae,ae,ae] [(0,(1,(.const (.bool true)))),(1,(1,(ad 53))),(2,(1,(ad 54))),(3,(4,(ad 59)))]),a3 61 (.f_ 9 7 (ad 5) (ad 52)),bs 7 61 60] []
abbrev ayO:=am (J [I 46 0,a3 47 (.f_ 9 7 (ad 5) (ad 46)),a0 48 7 47,I 49 10,I 50 11,cV 51 HE [ad 48,ad 49,ad 50]] [0,1,2,5,9,10,11,51]) (aJ 51 ayN aE)
def Bx:bu:=⟨62,[],cO ayK ayL ayM ayO⟩
theorem RH:bC av (bF av xI Bx []) xI=some Bx:=by kernel_rfl
abbrev ayP:=J [cy 4 4 0,cy 5 6 1,aP 8 0] [2,3,4,5]
abbrev ayQ:=J [ai 27 1 5,an 28 27,ai 29 1 4,an 30 29,cc 31 .sub 28 30,a3 32 (.nI true (bW 0) (ad 31)),I 8 32] [8]
abbrev ayR:=am (dq [I 9 3,bD 10 .gtr 9 0,aS 11 10,aA 11 (I 12 2),aA 11 (I 13 3),aA 11 (bo 14 .sub 13 1),aA 11 (bm 15 4 12 14),aA 11 (ai 16 1 15),aA 11 (an 17 16),aA 11 (I 18 2),aA 11 (I 19 3),aA 11 (bm 20 4 18 19),aA 11 (ai 21 0 20),aA 11 (an 22 21),aA 11 (ai 23 2 4),aA 11 (an 24 23),aA 11 (cV 25 HF [ad 17,ad 22,ad 24]),cX 26 11 25] [aa,aa,aa,aa,aa,aa,aa,aa,aa,aa,aa,aa,aa,aa,aa,aa,fA,aa] [4,5,26]) (aJ 26 (am ayQ aR) aE)
abbrev ayS:=J [ai 33 1 5,an 34 33,I 8 34] [8]
def Bz:bu:=⟨35,[(.tmp 8)],cO ayP ayR ayS aR⟩
theorem RK:bC av (bF av Dm Bz []) Dm=some Bz:=by kernel_rfl
abbrev ayT:=J [cy 3 7 0,cn 6 cT] [1,2,3]
abbrev ayU:=J [ai 7 0 3,fc 8 7,cQ 9 8,aS 10 9,au 10 (I 11 1),au 10 (ai 12 1 3),au 10 (an 13 12),au 10 (bz 14 .lss 11 13),ck 15 10 14,aS 16 15,au 16 (I 17 1),au 16 (ai 18 1 3),au 16 (an 19 18),au 16 (bz 20 .eql 17 19),au 16 (aS 21 20),aA 21 (I 22 2),aA 21 (ai 23 2 3),aA 21 (an 24 23),aA 21 (bz 25 .lss 22 24),au 16 (cX 26 21 25),ck 27 16 26,aS 6 27] [6]
def By:bu:=⟨28,[(.tmp 6)],ct ayT ayU aR⟩
theorem RJ:bC av (bF av HE By []) HE=some By:=by kernel_rfl
abbrev ayV:=J [cn 6 cT] [0,1,2]
abbrev ayW:=J [I 7 0,I 8 1,bz 9 .geq 7 8,aS 10 9,aA 10 (I 11 0),aA 10 (I 12 2),aA 10 (bz 13 .leq 11 12),cX 14 10 13,aS 6 14] [6]
def Ch:bu:=⟨15,[(.tmp 6)],ct ayV ayW aR⟩
theorem Sp:bC av (bF av rp Ch []) rp=some Ch:=by kernel_rfl
abbrev azf:=J [cn 6 cT] [0,1,2]
abbrev azg:=J [I 10 2,bD 11 .lss 10 0,aS 12 11,au 12 (I 13 1),au 12 (a3 14 (.conv .u64 (ad 13))),au 12 (I 15 0),au 12 (a3 16 (.conv .u64 (ad 15))),au 12 (cc 17 .sub 14 16),au 12 (I 18 2),au 12 (a3 19 (.conv .u64 (ad 18))),au 12 (bz 20 .gtr 17 19),ck 21 12 20,aS 6 21] [6]
abbrev azh:=am (J [I 7 1,I 8 0,bz 9 .geq 7 8] [0,1,2,9]) (aJ 9 (am azg aR) aE)
abbrev azi:=J [I 22 2,bD 23 .lss 22 0,aS 24 23,aA 24 (I 25 0),aA 24 (a3 26 (.conv .u64 (ad 25))),aA 24 (I 27 1),aA 24 (a3 28 (.conv .u64 (ad 27))),aA 24 (cc 29 .sub 26 28),aA 24 (I 30 2),aA 24 (a3 31 (.conv .u64 (ad 30))),aA 24 (a3 32 (.un .neg (ad 31))),aA 24 (bz 33 .lss 29 32),cX 34 24 33,aS 6 34] [6]
def Cg:bu:=⟨35,[(.tmp 6)],cO azf azh azi aR⟩
theorem So:bC av (bF av Io Cg []) Io=some Cg:=by kernel_rfl
abbrev azj:=J [cy 3 4 0] [1,2,3]
abbrev azk:=J [an 4 1,ai 5 2 3,an 6 5,a3 7 (.conv .u64 (ad 6)),bB 8 Dh [ad 4,ad 7],bs 1 1 8] [2,3]
abbrev azl:=J [an 9 2,ai 10 3 3,an 11 10,a3 12 (.conv .u64 (ad 11)),bB 13 Dh [ad 9,ad 12],bs 1 2 13] []
def Cf:bu:=⟨14,[],ct azj azk azl⟩
theorem Sm:bC av (bF av DC Cf []) DC=some Cf:=by kernel_rfl
abbrev azA:=J [cn 6 cT] [0,1,2]
abbrev azB:=J [I 7 1,I 8 0,bz 9 .leq 7 8,aS 10 9,au 10 (I 11 1),au 10 (a3 12 (.conv .u64 (ad 11))),au 10 (I 13 0),au 10 (a3 14 (.conv .u64 (ad 13))),au 10 (cc 15 .sub 12 14),au 10 (I 16 2),au 10 (a3 17 (.conv .u64 (ad 16))),au 10 (bz 18 .leq 15 17),ck 19 10 18,aS 6 19] [6]
def BL:bu:=⟨20,[(.tmp 6)],ct azA azB aR⟩
theorem RW:bC av (bF av HL BL []) HL=some BL:=by kernel_rfl
abbrev agC:=J [cn 6 cT] [0,1,2]
abbrev agD:=J [I 7 1,I 8 0,bz 9 .leq 7 8,aS 10 9,au 10 (I 11 1),au 10 (a3 12 (.conv .u64 (ad 11))),au 10 (I 13 0),au 10 (a3 14 (.conv .u64 (ad 13))),au 10 (cc 15 .sub 12 14),au 10 (I 16 2),au 10 (a3 17 (.conv .u64 (ad 16))),au 10 (bz 18 .leq 15 17),ck 19 10 18,aS 6 19] [6]
def BB:bu:=⟨20,[(.tmp 6)],ct agC agD aR⟩
theorem RM:bC av (bF av HF BB []) HF=some BB:=by kernel_rfl
abbrev agE:=J [aP 2 0] [0]
abbrev agF:=J [I 3 0,a3 4 (.conv .u32 (ad 3)),bB 5 MS [ad 4],I 2 5] [2]
abbrev agG:=J [I 6 0,bB 7 H5 [ad 6],I 2 7] [2]
def zd:bu:=⟨8,[(.tmp 2)],cO agE (.cond (.const (.bool false)) (am agF aR) aE) agG aR⟩
theorem Sd:bC av (bF av H4 zd []) H4=some zd:=by kernel_rfl
abbrev ahO:=J [cn 4 cT] [0,1]
abbrev ahX:=J [cn 4 cT] [4]
abbrev ah3:=am (dq [I 11 0,dW 12 (.bin .eql .ptr (ad 11) (.const .dm)),aS 13 12,au 13 (I 14 1),au 13 (dW 15 (.bin .eql .ptr (ad 14) (.const .dm))),ck 16 13 15,aS 17 16,au 17 (I 18 0),au 17 (bT 19 18),au 17 (ai 20 0 19),au 17 (an 21 20),au 17 (I 22 1),au 17 (bT 23 22),au 17 (ai 24 0 23),au 17 (an 25 24),au 17 (cV 26 HK [ad 21,ad 25]),au 17 (cQ 27 26),ck 28 17 27,aS 29 28,au 29 (I 30 0),au 29 (I 31 1),au 29 (cV 32 HI [ad 30,ad 31]),au 29 (cQ 33 32),ck 34 29 33] [aa,aa,aa,aa,aa,aa,aa,aa,aa,aa,aa,aa,aa,aa,aa,fA,aa,aa,aa,aa,aa,fA,aa,aa] [0,1,34]) (aJ 34 (am ahX aR) aE)
abbrev ah4:=J [I 35 0,bB 36 Dr [ad 35],I 5 36] [1,5]
abbrev ahP:=J [I 37 1,bB 38 Dr [ad 37],bE 39 38,aP 40 0] [5,38,39,40]
abbrev ahQ:=J [cc 41 .lss 40 39] [5,38,39,40,41]
abbrev ahR:=J [bm 42 5 38 40,a0 43 5 42,cD 7 [ae,ae,ae,ae,.int .u64 0],bs 5 7 43] [5,7,38,39,40]
abbrev ahS:=J [cn 8 cT] [5,7,8,38,39,40]
abbrev ahT:=J [I 44 5,bE 45 44,aP 46 0] [5,7,8,38,39,40,44,45,46]
abbrev ahU:=J [cc 47 .lss 46 45] [5,7,8,38,39,40,44,45,46,47]
abbrev ahV:=J [bm 48 5 44 46,a0 49 5 48,cD 10 [ae,ae,ae,ae,.int .u64 0],bs 5 10 49] [5,7,8,10,38,39,40,44,45,46]
abbrev ahW:=J [aS 50 8,aS 51 50,au 51 (a0 52 5 10),au 51 (a0 53 5 7),au 51 (cV 54 HJ [ad 52,ad 53]),ck 55 51 54,aS 8 55] [5,7,8,38,39,40,44,45,46]
abbrev ahY:=J [bo 56 .add 46 1,I 46 56] [5,7,8,38,39,40,44,45,46]
abbrev ahZ:=J [cn 4 cT] [4]
abbrev ah0:=am (J [aS 57 8,cQ 58 57] [5,38,39,40,58]) (aJ 58 (am ahZ aR) aE)
abbrev ah1:=J [bo 59 .add 40 1,I 40 59] [5,38,39,40]
abbrev ah2:=J [cn 4 f5] [4]
def BD:bu:=⟨60,[(.tmp 4)],iB ahO ah3 ah4 (am ahP (bi 0 (cw [5,38,39,40] (cO ahQ (aJ 41 aE (b5 0)) (bi 1 (cO ahR ahS (am ahT (bi 2 (cw [5,7,8,38,39,40,44,45,46] (cO ahU (aJ 47 aE (b5 2)) (bi 3 (am ahV ahW)) ahY)))) ah0)) ah1)))) ah2 aR⟩
theorem RO:bC av (bF av HG BD []) HG=some BD:=by kernel_rfl
abbrev akI:=J [aP 2 0] [0,2]
abbrev akN:=J [I 5 0,a3 6 (.bin .shr .none (ad 5) (.const (.int .u64 16))),I 0 6] [0]
abbrev akO:=J [aP 2 16] [0,2]
abbrev akP:=am (J [I 3 0,dW 4 (.bin .geq .none (ad 3) (.const (.int .u32 65536)))] [0,2,4]) (aJ 4 (am akN akO) aE)
abbrev akJ:=J [I 9 0,a3 10 (.bin .shr .none (ad 9) (.const (.int .u64 8))),I 0 10] [0,2]
abbrev akK:=J [I 11 2,bo 12 .add 11 8,I 2 12] [0,2]
abbrev akL:=am (J [I 7 0,dW 8 (.bin .geq .none (ad 7) (.const (.int .u32 256)))] [0,2,8]) (aJ 8 (am akJ akK) aE)
abbrev akM:=J [I 13 2,I 14 0,a3 15 (.conv .u8 (ad 14)),a3 16 (.pn (.const (.str [0,1,2,2,3,3,3,3,4,4,4,4,4,4,4,4,5,5,5,5,5,5,5,5,5,5,5,5,5,5,5,5,6,6,6,6,6,6,6,6,6,6,6,6,6,6,6,6,6,6,6,6,6,6,6,6,6,6,6,6,6,6,6,6,7,7,7,7,7,7,7,7,7,7,7,7,7,7,7,7,7,7,7,7,7,7,7,7,7,7,7,7,7,7,7,7,7,7,7,7,7,7,7,7,7,7,7,7,7,7,7,7,7,7,7,7,7,7,7,7,7,7,7,7,7,7,7,7,8,8,8,8,8,8,8,8,8,8,8,8,8,8,8,8,8,8,8,8,8,8,8,8,8,8,8,8,8,8,8,8,8,8,8,8,8,8,8,8,8,8,8,8,8,8,8,8,8,8,8,8,8,8,8,8,8,8,8,8,8,8,8,8,8,8,8,8,8,8,8,8,8,8,8,8,8,8,8,8,8,8,8,8,8,8,8,8,8,8,8,8,8,8,8,8,8,8,8,8,8,8,8,8,8,8,8,8,8,8,8,8,8,8,8,8,8,8,8,8,8,8,8,8,8,8,8,8])) (ad 15)),a3 17 (.conv .i64 (ad 16)),cc 18 .add 13 17,I 2 18] [2]
def Lp:bu:=⟨19,[(.tmp 2)],f0 akI akP akL akM aR⟩
theorem aCG:bC av (bF av MS Lp []) MS=some Lp:=by kernel_rfl
abbrev akQ:=J [aP 2 0] [0,2]
abbrev akY:=J [I 5 0,a3 6 (.bin .shr .none (ad 5) (.const (.int .u64 32))),I 0 6] [0]
abbrev akZ:=J [aP 2 32] [0,2]
abbrev ak0:=am (J [I 3 0,dW 4 (.bin .geq .none (ad 3) (.const (.int .u64 4294967296)))] [0,2,4]) (aJ 4 (am akY akZ) aE)
abbrev akR:=J [I 9 0,a3 10 (.bin .shr .none (ad 9) (.const (.int .u64 16))),I 0 10] [0,2]
abbrev akS:=J [I 11 2,bo 12 .add 11 16,I 2 12] [0,2]
abbrev akT:=am (J [I 7 0,dW 8 (.bin .geq .none (ad 7) (.const (.int .u64 65536)))] [0,2,8]) (aJ 8 (am akR akS) aE)
abbrev akU:=J [I 15 0,a3 16 (.bin .shr .none (ad 15) (.const (.int .u64 8))),I 0 16] [0,2]
abbrev akV:=J [I 17 2,bo 18 .add 17 8,I 2 18] [0,2]
abbrev akW:=am (J [I 13 0,dW 14 (.bin .geq .none (ad 13) (.const (.int .u64 256)))] [0,2,14]) (aJ 14 (am akU akV) aE)
abbrev akX:=J [I 19 2,I 20 0,a3 21 (.conv .u8 (ad 20)),a3 22 (.pn (.const (.str [0,1,2,2,3,3,3,3,4,4,4,4,4,4,4,4,5,5,5,5,5,5,5,5,5,5,5,5,5,5,5,5,6,6,6,6,6,6,6,6,6,6,6,6,6,6,6,6,6,6,6,6,6,6,6,6,6,6,6,6,6,6,6,6,7,7,7,7,7,7,7,7,7,7,7,7,7,7,7,7,7,7,7,7,7,7,7,7,7,7,7,7,7,7,7,7,7,7,7,7,7,7,7,7,7,7,7,7,7,7,7,7,7,7,7,7,7,7,7,7,7,7,7,7,7,7,7,7,8,8,8,8,8,8,8,8,8,8,8,8,8,8,8,8,8,8,8,8,8,8,8,8,8,8,8,8,8,8,8,8,8,8,8,8,8,8,8,8,8,8,8,8,8,8,8,8,8,8,8,8,8,8,8,8,8,8,8,8,8,8,8,8,8,8,8,8,8,8,8,8,8,8,8,8,8,8,8,8,8,8,8,8,8,8,8,8,8,8,8,8,8,8,8,8,8,8,8,8,8,8,8,8,8,8,8,8,8,8,8,8,8,8,8,8,8,8,8,8,8,8,8,8,8,8,8,8])) (ad 21)),a3 23 (.conv .i64 (ad 22)),cc 24 .add 19 23,I 2 24] [2]
def B0:bu:=⟨25,[(.tmp 2)],iB akQ ak0 akT akW akX aR⟩
theorem Sc:bC av (bF av H5 B0 []) H5=some B0:=by kernel_rfl
abbrev alK:=J [cn 4 cT] [0,1]
abbrev alT:=J [I 7 0,I 8 1,dW 9 (.oq false (ad 7) (ad 8))] [0,1,9]
abbrev alV:=J [cn 4 f5] [4]
abbrev alL:=J [cn 4 cT] [4]
abbrev alM:=am (dq [I 10 0,bT 11 10,ai 12 0 11,an 13 12,bE 14 13,I 15 1,bT 16 15,ai 17 0 16,an 18 17,bE 19 18,bz 20 .neq 14 19,aS 21 20,au 21 (I 22 0),au 21 (bT 23 22),au 21 (ai 24 1 23),au 21 (an 25 24),au 21 (I 26 1),au 21 (bT 27 26),au 21 (ai 28 1 27),au 21 (an 29 28),au 21 (bz 30 .neq 25 29),ck 31 21 30,aS 32 31,au 32 (I 33 0),au 32 (bT 34 33),au 32 (ai 35 2 34),au 32 (an 36 35),au 32 (I 37 1),au 32 (bT 38 37),au 32 (ai 39 2 38),au 32 (an 40 39),au 32 (bz 41 .neq 36 40),ck 42 32 41,aS 43 42,au 43 (I 44 0),au 43 (bT 45 44),au 43 (ai 46 3 45),au 43 (an 47 46),au 43 (I 48 1),au 43 (bT 49 48),au 43 (ai 50 3 49),au 43 (an 51 50),au 43 (bz 52 .neq 47 51),ck 53 43 52] [aa,aa,aa,aa,aa,aa,aa,aa,aa,aa,aa,aa,aa,aa,aa,aa,aa,aa,aa,aa,aa,aa,aa,aa,aa,aa,aa,aa,aa,aa,aa,aa,aa,aa,aa,aa,aa,aa,aa,aa,aa,aa,aa,aa] [0,1,53]) (aJ 53 (am alL aR) aE)
abbrev alN:=J [I 54 0,bT 55 54,ai 56 0 55,an 57 56,bE 58 57,aP 59 0] [1,57,58,59]
abbrev alO:=J [cc 60 .lss 59 58] [1,57,58,59,60]
abbrev alP:=J [I 61 59,bm 62 6 57 59,a0 63 6 62,cD 6 [.str [],ae,ae,ae,ae,ae],I 5 61,bs 6 6 63] [1,5,6,57,58,59]
abbrev alQ:=J [cn 4 cT] [4]
abbrev alR:=am (dq [a0 64 6 6,I 65 1,bT 66 65,ai 67 0 66,an 68 67,I 69 5,bm 70 6 68 69,a0 71 6 70,dW 72 (.bin .neq (.cells [.str,.int,.int,.int,.int,.int]) (ad 64) (ad 71))] [aa,aa,aa,aa,aa,aa,aa,aa,aa] [1,57,58,59,72]) (aJ 72 (am alQ aR) aE)
abbrev alS:=J [bo 73 .add 59 1,I 59 73] [1,57,58,59]
abbrev alU:=J [cn 4 f5] [4]
def BK:bu:=⟨74,[(.tmp 4)],iB alK (am alT (aJ 9 (am alV aR) aE)) alM (am alN (bi 0 (cw [1,57,58,59] (cO alO (aJ 60 aE (b5 0)) (bi 1 (am alP alR)) alS)))) alU aR⟩
theorem RV:bC av (bF av HK BK [(1,[2])]) HK=some BK:=by kernel_rfl
abbrev alW:=J [cn 4 cT] [0,1]
abbrev al2:=dq [I 7 0,I 8 0,bT 9 8,ai 10 6 9,an 11 10,bT 12 7,ai 13 7 12,a3 14 (.f_ 9 1 (ad 13) (ad 11)),an 15 14,I 16 1,I 17 1,bT 18 17,ai 19 6 18,an 20 19,bT 21 16,ai 22 7 21,a3 23 (.f_ 9 1 (ad 22) (ad 20)),an 24 23,I 5 15,I 6 24] [aa,aa,aa,aa,aa,aa,aa,aa,aa,aa,aa,aa,aa,aa,aa,aa,aa,aa,aa,aa] [0,1,5,6]
abbrev al3:=J [cn 4 f5] [4]
abbrev al4:=J [cn 4 cT] [4]
abbrev alX:=J [cn 4 f5] [4]
abbrev alY:=am (J [I 37 0,bT 38 37,ai 39 0 38,an 40 39,bT 41 40,ai 42 1 41,an 43 42,bD 44 .eql 43 0,aS 45 44,au 45 (I 46 1),au 45 (bT 47 46),au 45 (ai 48 6 47),au 45 (an 49 48),au 45 (bD 50 .eql 49 0),ck 51 45 50,aS 52 51,au 52 (I 53 5),au 52 (I 54 0),au 52 (bT 55 54),au 52 (ai 56 0 55),au 52 (an 57 56),au 52 (bT 58 57),au 52 (ai 59 1 58),au 52 (an 60 59),au 52 (cc 61 .add 53 60),au 52 (I 62 6),au 52 (bz 63 .leq 61 62),ck 64 52 63,aS 36 64] [0,1,36]) (aJ 36 (am alX aR) aE)
abbrev alZ:=am (J [I 29 5,bD 30 .lss 29 0,aS 31 30,au 31 (I 32 5),au 31 (I 33 6),au 31 (bz 34 .gtr 32 33),ck 35 31 34,aS 28 35] [0,1,5,6,28]) (aJ 28 (am al4 aR) alY)
abbrev al0:=am (J [I 26 6,bD 27 .lss 26 0,aS 25 27] [0,1,5,6,25]) (aJ 25 (am al3 aR) alZ)
abbrev al1:=dq [I 65 0,bT 66 65,ai 67 6 66,an 68 67,bD 69 .gtr 68 0,aS 70 69,aA 70 (I 71 0),aA 70 (bT 72 71),aA 70 (ai 73 2 72),aA 70 (ai 74 1 73),aA 70 (an 75 74),aA 70 (I 76 1),aA 70 (bT 77 76),aA 70 (ai 78 2 77),aA 70 (ai 79 1 78),aA 70 (an 80 79),aA 70 (bz 81 .geq 75 80),cX 82 70 81,aS 4 82] [aa,aa,aa,aa,aa,aa,aa,aa,aa,aa,aa,aa,aa,aa,aa,aa,aa,aa,aa] [4]
def BI:bu:=⟨83,[(.tmp 4)],f0 alW al2 (bi 0 al0) al1 aR⟩
theorem RT:bC av (bF av HI BI []) HI=some BI:=by kernel_rfl
abbrev al5:=J [eA 2 fT] [0]
abbrev amd:=J [a3 3 (.pr 5)] [0,3]
abbrev amk:=J [I 12 0,bB 13 Dp [ad 12],I 4 13] [0,3,4]
abbrev amn:=J [I 14 4,bE 15 14,aP 16 0] [0,3,4,15,16]
abbrev amp:=J [cc 17 .lss 16 15] [0,3,4,15,16,17]
abbrev al6:=J [I 18 16,I 5 18] [0,3,4,5,15,16]
abbrev al7:=am (J [I 19 0,I 20 5,bT 21 19,ai 22 7 21,a3 23 (.f_ 9 1 (ad 22) (ad 20)),an 24 23,bD 25 .lss 24 0] [0,3,4,5,15,16,25]) (aJ 25 (b5 1) aE)
abbrev al8:=J [eA 6 (.const (.int .u64 0)),eA 7 (.const (.int .u64 0))] [0,3,4,5,6,7,15,16]
abbrev al9:=J [I 26 4,I 27 5,a3 28 (.slice 4 (ad 26) (some (ad 27)) none none),bE 29 28,aP 30 0] [0,3,4,5,6,7,15,16,28,29,30]
abbrev al_:=J [cc 31 .lss 30 29] [0,3,4,5,6,7,15,16,28,29,30,31]
abbrev ama:=J [bm 32 4 28 30,a0 33 4 32,cD 9 [ae,ae,ae,ae],bs 4 9 33] [0,3,4,5,6,7,9,15,16,28,29,30]
abbrev amb:=J [I 34 6,ai 35 2 9,an 36 35,a3 37 (.conv .u64 (ad 36)),cc 38 .or 34 37,I 6 38] [0,3,4,5,6,7,9,15,16,28,29,30]
abbrev amc:=J [I 39 7,ai 40 3 9,an 41 40,a3 42 (.conv .u64 (ad 41)),cc 43 .or 39 42,I 7 43] [0,3,4,5,6,7,15,16,28,29,30]
abbrev ame:=J [bo 44 .add 30 1,I 30 44] [0,3,4,5,6,7,15,16,28,29,30]
abbrev amf:=J [I 45 0,bT 46 45,ai 47 0 46,an 48 47,bT 49 48,ai 50 0 49,an 51 50,bE 52 51,aP 53 0] [0,3,4,5,6,7,15,16,51,52,53]
abbrev amg:=J [cc 54 .lss 53 52] [0,3,4,5,6,7,15,16,51,52,53,54]
abbrev amh:=J [I 55 53,bm 56 6 51 53,a0 57 6 56,cD 11 [.str [],ae,ae,ae,ae,ae],I 10 55,bs 6 11 57] [0,3,4,5,6,7,10,11,15,16,51,52,53]
abbrev ami:=dq [I 80 3,I 81 10,I 82 4,I 83 5,bm 84 4 82 83,ai 85 0 84,an 86 85,I 87 4,bE 88 87,I 89 5,cc 90 .sub 88 89,I 91 0,I 92 5,bT 93 91,ai 94 7 93,a3 95 (.f_ 9 1 (ad 94) (ad 92)),an 96 95,I 97 0,a0 98 6 11,I 99 4,I 100 5,bB 101 Dq [ad 97,ad 98,ad 99,ad 100],cc 102 .add 96 101,I 103 6,a3 104 (.build [ae,ae,ae,ae,.int .u64 0] [(0,(1,(ad 81))),(1,(1,(ad 86))),(2,(1,(ad 90))),(3,(1,(ad 102))),(4,(1,(ad 103)))]),a3 105 (.buildSlice [ae,ae,ae,ae,.int .u64 0] 5 1 [(0,(5,(ad 104)))]),ib 106 5 40 80 105,I 3 106] [aa,aa,aa,aa,aa,aa,aa,aa,aa,aa,aa,aa,aa,aa,aa,aa,aa,aa,aa,aa,aa,aa,aa,aa,aa,aa,fA,aa] [0,3,4,5,6,7,15,16,51,52,53]
abbrev amj:=am (dq [I 58 4,bE 59 58,I 60 5,cc 61 .sub 59 60,ai 62 2 11,an 63 62,bz 64 .lss 61 63,aS 65 64,aA 65 (I 66 6),aA 65 (bB 67 H6 [ad 66]),aA 65 (ai 68 3 11),aA 65 (an 69 68),aA 65 (bz 70 .leq 67 69),cX 71 65 70,aS 72 71,aA 72 (I 73 7),aA 72 (ai 74 5 11),aA 72 (an 75 74),aA 72 (a3 76 (.conv .u64 (ad 75))),aA 72 (cc 77 .andNot 73 76),aA 72 (dW 78 (.bin .eql .none (ad 77) (.const (.int .u64 0)))),cX 79 72 78] [aa,aa,aa,aa,aa,aa,aa,aa,aa,aa,aa,aa,aa,aa,aa,aa,aa,aa,aa,aa,aa,aa] [0,3,4,5,6,7,10,11,15,16,51,52,53,79]) (aJ 79 ami aE)
abbrev aml:=J [bo 107 .add 53 1,I 53 107] [0,3,4,5,6,7,15,16,51,52,53]
abbrev amm:=J [bo 108 .add 16 1,I 16 108] [0,3,4,15,16]
abbrev amo:=J [I 109 3,I 2 109] [2]
def BH:bu:=⟨110,[(.tmp 2)],iB al5 amd amk (am amn (bi 0 (cw [0,3,4,15,16] (cO amp (aJ 17 aE (b5 0)) (bi 1 (iB al6 al7 al8 (am al9 (bi 2 (cw [0,3,4,5,6,7,15,16,28,29,30] (cO al_ (aJ 31 aE (b5 2)) (bi 3 (ct ama amb amc)) ame)))) amf (bi 4 (cw [0,3,4,5,6,7,15,16,51,52,53] (cO amg (aJ 54 aE (b5 4)) (bi 5 (am amh amj)) aml))))) amm)))) amo aR⟩
theorem RS:bC av (bF av Dr BH [(1,[0])]) Dr=some BH:=by kernel_rfl
abbrev amw:=J [cy 2 5 0,cy 3 5 1,cn 4 cT] [2,3]
abbrev amx:=J [ai 5 0 2,an 6 5,ai 7 0 3,an 8 7,bz 9 .eql 6 8,aS 10 9,aA 10 (ai 11 1 2),aA 10 (an 12 11),aA 10 (ai 13 1 3),aA 10 (an 14 13),aA 10 (bz 15 .geq 12 14),cX 16 10 15,aS 17 16,aA 17 (ai 18 2 2),aA 17 (an 19 18),aA 17 (ai 20 2 3),aA 17 (an 21 20),aA 17 (bz 22 .leq 19 21),cX 23 17 22,aS 24 23,aA 24 (ai 25 3 2),aA 24 (an 26 25),aA 24 (ai 27 3 3),aA 24 (an 28 27),aA 24 (bz 29 .leq 26 28),cX 30 24 29,aS 31 30,aA 31 (ai 32 4 2),aA 31 (an 33 32),aA 31 (ai 34 4 3),aA 31 (an 35 34),aA 31 (cc 36 .andNot 33 35),aA 31 (dW 37 (.bin .eql .none (ad 36) (.const (.int .u64 0)))),cX 38 31 37,aS 4 38] [4]
def BJ:bu:=⟨39,[(.tmp 4)],ct amw amx aR⟩
theorem RU:bC av (bF av HJ BJ []) HJ=some BJ:=by kernel_rfl
abbrev anT:=J [aP 2 0] [0]
abbrev anX:=J [I 3 0,a3 4 (.bin .shr .none (ad 3) (.const (.int .u64 1))),a3 5 (.bin .and .none (ad 4) (.const (.int .u64 6148914691236517205))),I 6 0,a3 7 (.bin .and .none (ad 6) (.const (.int .u64 6148914691236517205))),cc 8 .add 5 7,I 0 8] [0]
abbrev anY:=J [I 9 0,a3 10 (.bin .shr .none (ad 9) (.const (.int .u64 2))),a3 11 (.bin .and .none (ad 10) (.const (.int .u64 3689348814741910323))),I 12 0,a3 13 (.bin .and .none (ad 12) (.const (.int .u64 3689348814741910323))),cc 14 .add 11 13,I 0 14] [0]
abbrev anZ:=J [I 15 0,a3 16 (.bin .shr .none (ad 15) (.const (.int .u64 4))),I 17 0,cc 18 .add 16 17,a3 19 (.bin .and .none (ad 18) (.const (.int .u64 1085102592571150095))),I 0 19] [0]
abbrev an0:=J [I 20 0,I 21 0,a3 22 (.bin .shr .none (ad 21) (.const (.int .u64 8))),cc 23 .add 20 22,I 0 23] [0]
abbrev anU:=J [I 24 0,I 25 0,a3 26 (.bin .shr .none (ad 25) (.const (.int .u64 16))),cc 27 .add 24 26,I 0 27] [0]
abbrev anV:=J [I 28 0,I 29 0,a3 30 (.bin .shr .none (ad 29) (.const (.int .u64 32))),cc 31 .add 28 30,I 0 31] [0]
abbrev anW:=J [I 32 0,a3 33 (.conv .i64 (ad 32)),bo 34 .and 33 127,I 2 34] [2]
def B1:bu:=⟨35,[(.tmp 2)],am anT (iZ anX anY anZ an0 anU anV anW aR)⟩
theorem Se:bC av (bF av H6 B1 []) H6=some B1:=by kernel_rfl
end Go.aQ.C
namespace Go.aQ.C
open Go.aQ
structure cd where
 stop:Int
 c_:Int
 cB:Int
 jb:Bool
 gP:Bool
def cd.row(c:cd):List V:=[.int .i64 c.stop,.int .i64 c.c_,.int .i64 c.cB,.bool c.jb,.bool c.gP]
def cd.wf(c:cd):Prop:=el c.stop/\el c.c_/\el c.cB
def within(n low high:Int):Bool:=decide (low<=n)&&decide (n<=high)
theorem m7(n low high:Int):bQ av rp [.int .i64 n,.int .i64 low,.int .i64 high] (fun v=>v=.bool (within n low high)):=by
 refine bZ Sp (by simp[Ch]) ?_;simp-implicitDefEqProofs (disch:=omega) only[go_sem,Ch];cases h:decide (low<=n)
 . simp-implicitDefEqProofs (disch:=omega) only[go_sem,within,h]
 . simp-implicitDefEqProofs (disch:=omega) only[go_sem,within,h]
def UA(c:UInt8):Bool:=
 (decide (97<=c.toNat)&&decide (c.toNat<=122))||(decide (65<=c.toNat)&&decide (c.toNat<=90))||(decide (48<=c.toNat)&&decide (c.toNat<=57))
def mark(c:UInt8):Bool:=decide (c.toNat=45)||decide (c.toNat=95)||decide (c.toNat=46)
def ya(c:UInt8):Bool:=UA c||mark c
def k5(s:List UInt8):Bool:=s.all ya&&decide (0<s.length)&&decide (s.length<=32)
theorem Py{s:List UInt8}{i:Nat}{c:UInt8}(h:s[i]? =some c)(p:UInt8->Bool):(s.take (i+1)).all p=((s.take i).all p&&p c):=by
 rw[hR,h];simp[List.all_append]
theorem aaR{s:List UInt8}{i:Nat}{c:UInt8}(h:s[i]? =some c){p:UInt8->Bool}(ax:p c=false):s.all p=false:=by
 rw[List.all_eq_false];exact⟨c,dO h,by simp[ax]⟩
theorem Nr(c:UInt8):ya c=true↔(97<=c.toNat/\c.toNat<=122)∨(65<=c.toNat/\c.toNat<=90)∨(48<=c.toNat/\c.toNat<=57)∨c.toNat=45∨c.toNat=95∨c.toNat=46:=by
 simp only[ya,UA,mark,Bool.or_eq_true,b_,decide_eq_true_eq];omega
theorem Ve{s:List UInt8}{i:Nat}{c:UInt8}(h:s[i]? =some c)(ar:ya c=false):k5 s=false:=by
 rw[k5,aaR h ar];rfl
theorem Vd(c:UInt8)(h:¬((97<=c.toNat/\c.toNat<=122)∨(65<=c.toNat/\c.toNat<=90)∨(48<=c.toNat/\c.toNat<=57)∨c.toNat=45∨c.toNat=95∨c.toNat=46)):ya c=false:=by
 rw[<-Bool.not_eq_true,Nr];exact h
theorem vF(s:List UInt8)(ak:s.length<=maxLen):bQ av xN [.str s] (fun v=>v=.bool (k5 s)):=by
 have hm:maxLen=9223372036854775807:=by rfl
 refine bZ R5 (by simp[BS]) ?_;simp-implicitDefEqProofs (disch:=omega) only[go_sem,BS];refine ek s (fun i vs M=>(s.take i).all ya=true/\vs=[.str s,.int .i64 i]/\M=[]) ⟨by simp,rfl,rfl⟩ ?_ ?_
 . rintro i c vs M ar hi aw ⟨d9,rfl,rfl⟩
   simp-implicitDefEqProofs (maxSteps:=3000000) (disch:=omega) only[go_sem,Jn,aw,ar]
   repeat' (refine AJ (fun h=>?_) (fun h=>?_))
   all_goals first
    |(refine c6 hi ⟨?_,rfl,rfl⟩
      rw[Py ar,d9,(Nr c).2 (by omega)];rfl)
    |(rw[Ve ar (Vd c (by omega))])
 . rintro vs M ⟨d9,rfl,rfl⟩
   rw[g0] at d9;simp-implicitDefEqProofs (disch:=omega) only[go_sem,dg];refine a5 (fun h=>?_) (fun h=>?_)
   . have ay:0<s.length:=by omega
     simp-implicitDefEqProofs (disch:=omega) only[go_sem,k5,d9,ay];exact decide_eq_decide.2 (by omega)
   . have ay:¬0<s.length:=by omega
     simp-implicitDefEqProofs (disch:=omega) only[go_sem];simp[k5,ay]
theorem Eo(n:Nat)(h:n<18446744073709551616):IntKind.u64.wrap (n:Int)=n:=Xp _ (by omega) (by omega)
theorem D3(a b:Nat)(bk:a<18446744073709551616)(aj:b<18446744073709551616):a|||b<18446744073709551616:=Nat.or_lt_two_pow (n:=64) bk aj
theorem Kr(a b:Nat)(bk:a<18446744073709551616):a&&&b<18446744073709551616:=Nat.lt_of_le_of_lt Nat.and_le_left bk
theorem D2(a b:Nat)(bk:a<18446744073709551616)(aj:b<18446744073709551616):qk .u64 a b=((a|||b:Nat):Int):=by
 have e:(iv 64 (a:Int)|||iv 64 (b:Int)).toNat=a|||b:=by
  rw[BitVec.ofInt_natCast,BitVec.ofInt_natCast,BitVec.toNat_or,BitVec.toNat_ofNat,BitVec.toNat_ofNat,Nat.mod_eq_of_lt bk,Nat.mod_eq_of_lt aj]
 show IntKind.u64.wrap ((iv 64 (a:Int)|||iv 64 (b:Int)).toNat:Int)=_;rw[e];exact Eo _ (D3 a b bk aj)
theorem PD(a b:Nat)(bk:a<18446744073709551616)(aj:b<18446744073709551616):ES .u64 a b=((a&&&b:Nat):Int):=by
 have e:(iv 64 (a:Int)&&&iv 64 (b:Int)).toNat=a&&&b:=by
  rw[BitVec.ofInt_natCast,BitVec.ofInt_natCast,BitVec.toNat_and,BitVec.toNat_ofNat,BitVec.toNat_ofNat,Nat.mod_eq_of_lt bk,Nat.mod_eq_of_lt aj]
 show IntKind.u64.wrap ((iv 64 (a:Int)&&&iv 64 (b:Int)).toNat:Int)=_;rw[e];exact Eo _ (Kr a b bk)
def x5(a b:Nat):Nat:=a^^^(a&&&b)
theorem U2(a b j:Nat):(x5 a b).testBit j=(a.testBit j&&!b.testBit j):=by
 rw[x5,Nat.testBit_xor,Nat.testBit_and];cases a.testBit j<;>cases b.testBit j<;>rfl
theorem PV{a j:Nat}(bk:a<18446744073709551616)(ap:64<=j):a.testBit j=false:=
 Nat.testBit_lt_two_pow (Nat.lt_of_lt_of_le bk (Nat.pow_le_pow_right (n:=2) (by omega) ap))
theorem aIO{a:Nat}(h:∀j,64<=j->a.testBit j=false):a<18446744073709551616:=
 Nat.lt_pow_two_of_testBit (n:=64) a fun j ap=>h j ap
theorem aJd(a b:Nat)(bk:a<18446744073709551616):x5 a b<18446744073709551616:=
 aIO fun j ap=>by rw[U2,PV bk ap];rfl
theorem aaV(a b:Nat)(bk:a<18446744073709551616)(aNV:b<18446744073709551616):Kq .u64 a b=((x5 a b:Nat):Int):=by
 have e:(iv 64 (a:Int)&&&~~~iv 64 (b:Int)).toNat=x5 a b:=by
  apply Nat.eq_of_testBit_eq;intro j;rw[U2,BitVec.ofInt_natCast,BitVec.ofInt_natCast,BitVec.testBit_toNat,BitVec.getLsbD_and,BitVec.getLsbD_not,BitVec.getLsbD_ofNat,BitVec.getLsbD_ofNat];by_cases ap:j<64
  . simp[ap]
  . simp[ap,PV bk (Nat.le_of_not_lt ap)]
 show IntKind.u64.wrap ((iv 64 (a:Int)&&&~~~iv 64 (b:Int)).toNat:Int)=_;rw[e];exact Eo _ (aJd a b bk)
def pop:Nat->Nat->Nat
 |0,_=>0
 |k+1,a=>a%2+pop k (a/2)
theorem VA(k:Nat):∀a,a≠0->a<2^k->pop k (a&&&(a -1))+1=pop k a:=by
 induction k with
 |zero=>intro a a4 h;simp at h;omega
 |succ k bq=>
  intro a a4 h;have aw:(a&&&(a -1))/2=(a/2)&&&((a -1)/2):=Nat.and_div_two;have hm:(a&&&(a -1))%2=0:=by
   rcases Nat.mod_two_eq_zero_or_one a with U|U
   . have:¬(a&&&(a -1))%2=1:=by rw[Nat.and_mod_two_eq_one];omega
     omega
   . have:¬(a&&&(a -1))%2=1:=by rw[Nat.and_mod_two_eq_one];omega
     omega
  simp only[pop,aw,hm];rcases Nat.mod_two_eq_zero_or_one a with U|U
  . have e:(a -1)/2=a/2 -1:=by omega
    have:=bq (a/2) (by omega) (by rw[Nat.pow_succ] at h;omega);rw[e,U];omega
  . have e:(a -1)/2=a/2:=by omega
    rw[e,Nat.and_self,U];omega
theorem aJ_(k:Nat):∀a,pop k a<=k:=by
 induction k with
 |zero=>intro a;simp[pop]
 |succ k bq=>intro a;have:=bq (a/2);simp only[pop];omega
theorem aKc(k:Nat):pop k 0=0:=by
 induction k with
 |zero=>rfl
 |succ k bq=>simp[pop,bq]
attribute [irreducible] pop
def pK(z:Int):Nat:=(z%18446744073709551616).toNat
theorem qR(z:Int):pK z<18446744073709551616:=by unfold pK;omega
theorem A4(k:IntKind)(z:Int):uP .u64 (.int k z)=some (.int .u64 (pK z:Nat)):=by
 have e:(2:Int)^IntKind.u64.bits=18446744073709551616:=by decide
 rw[QB]
 congr 2
 unfold IntKind.wrap pK;simp only[e,show IntKind.u64.signed=false from rfl,Bool.false_and];simp only[i_,if_false];omega
theorem EM(a b:Nat)(bk:a<18446744073709551616)(aj:b<18446744073709551616):bQ av Dh [.int .u64 a,.int .u64 b] (fun v=>v=.int .u64 (a|||b:Nat)):=by
 refine bZ RB (by simp[Bq]) ?_;simp-implicitDefEqProofs (disch:=omega) only[go_sem,Bq,D2 a b bk aj]
theorem O8(a b:Nat)(bk:a<18446744073709551616)(aj:b<18446744073709551616):bQ av Hx [.int .u64 a,.int .u64 b] (fun v=>v=.bool (decide (x5 a b=0))):=by
 refine bZ RD (by simp[Bs]) ?_;simp-implicitDefEqProofs (disch:=omega) only[go_sem,Bs,aaV a b bk aj];exact decide_eq_decide.2 (by omega)
theorem O7(a:Nat)(bk:a<18446744073709551616):bQ av Hv [.int .u64 a] (fun v=>v=.int .i64 (pop 64 a:Nat)):=by
 refine bZ RA (by simp[Bp]) ?_;simp-implicitDefEqProofs (disch:=omega) only[go_sem,Bp];have ss:=aKc 64;have Wx:∀b:Nat,b≠0->b<18446744073709551616->IntKind.u64.wrap ((b:Int) -1)=((b -1:Nat):Int):=fun b a4 U=>by
  rw[Xp _ (by omega) (by omega)];omega
 have ax:=aJ_ 64 a;refine⟨fun n vs M=>∃b k:Nat,n=pop 64 b/\b<18446744073709551616/\k+pop 64 b=pop 64 a/\vs=[.int .u64 b,.int .i64 k]/\M=[],?_,?_⟩
 . simp-implicitDefEqProofs (disch:=omega) only[go_sem]
   refine a5 (fun h=>?_) (fun h=>?_)
   . have:a=0:=by omega
     subst this;simp-implicitDefEqProofs (disch:=omega) only[go_sem,ss];rfl
   . simp-implicitDefEqProofs (disch:=omega) only[go_sem]
     have a4:a≠0:=by omega
     have aw:=VA 64 a a4 bk;rw[Wx a a4 bk,PD a (a -1) bk (by omega)];exact⟨_,a&&&(a -1),1,rfl,Kr _ _ bk,by omega,rfl⟩
 . rintro n vs M ⟨b,k,rfl,aj,ao,rfl,rfl⟩
   simp-implicitDefEqProofs (disch:=omega) only[go_sem];refine a5 (fun h=>?_) (fun h=>?_)
   . have:b=0:=by omega
     subst this;rw[ss] at ao;simp-implicitDefEqProofs (disch:=omega) only[go_sem];omega
   . simp-implicitDefEqProofs (disch:=omega) only[go_sem]
     have a4:b≠0:=by omega
     have aw:=VA 64 b a4 aj;rw[Wx b a4 aj,PD b (b -1) aj (by omega)];exact⟨_,by omega,b&&&(b -1),k+1,rfl,Kr _ _ aj,by omega,rfl⟩
theorem W0{i:Nat}(hi:i<64):2^i<18446744073709551616:=Nat.pow_lt_pow_right (a:=2) (by omega) hi
def aA5(s i:Nat):List Nat:=(c1 i).filter s.testBit
theorem Oj(n:Int):IntKind.u64.wrap n=n%18446744073709551616:=by
 have e:(2:Int)^IntKind.u64.bits=18446744073709551616:=by decide
 unfold IntKind.wrap;simp only[e,show IntKind.u64.signed=false from rfl,Bool.false_and];simp
theorem nz(n:Int):IntKind.i64.wrap n=if n%18446744073709551616>=9223372036854775808 then n%18446744073709551616 -18446744073709551616 else n%18446744073709551616:=by
 have e:(2:Int)^IntKind.i64.bits=18446744073709551616:=by decide
 have fm:(2:Int)^(IntKind.i64.bits -1)=9223372036854775808:=by decide
 unfold IntKind.wrap;simp only[e,fm,show IntKind.i64.signed=true from rfl,Bool.true_and,decide_eq_true_eq]
theorem VD(a b d:Int)(bk:el a)(aj:el b)(aw:el d):bQ av Io [.int .i64 a,.int .i64 b,.int .i64 d] (fun v=>v=.bool (decide (d<b -a))):=by
 obtain⟨bU,b4⟩:=bk;obtain⟨c4,dF⟩:=aj;obtain⟨d1,d2⟩:=aw;refine bZ So (by simp[Cg]) ?_;simp-implicitDefEqProofs (maxSteps:=3000000) (disch:=omega) only[go_sem,Cg,Jn]
 repeat' (refine AJ (fun h=>?_) (fun h=>?_))
 all_goals
  rw[Bool.eq_iff_iff];simp only[decide_eq_true_eq,Oj,true_iff,false_iff,i_];omega
structure dk where
 id:List UInt8
 ga:Int
 b1:Int
 gb:Int
 v3:Int
 eP:Int
def dk.row(p:dk):List V:=[.str p.id,.int .i64 p.ga,.int .i64 p.b1,.int .i64 p.gb,.int .i64 p.v3,.int .i64 p.eP]
def dk.wf(p:dk):Prop:=p.id.length<=maxLen/\el p.ga/\el p.b1/\el p.gb/\el p.v3/\el p.eP
def dk.right(p:dk):Bool:=within p.ga 0 1000000&&(within p.b1 1 8&&(within p.gb 1 16&&(within p.v3 0 86400&&within p.eP 1 255)))
structure a1 where
 cB:Int
 c_:Int
 gb:Int
 eP:Int
def a1.row(r:a1):List V:=[.int .i64 r.cB,.int .i64 r.c_,.int .i64 r.gb,.int .i64 r.eP]
def a1.wf(r:a1):Prop:=el r.cB/\el r.c_/\el r.gb/\el r.eP
def AH(l:List a1):Nat:=l.foldl (fun a r=>a|||pK r.gb) 0
def Af(l:List a1):Nat:=l.foldl (fun a r=>a|||pK r.eP) 0
theorem Lr(f:a1->Int):∀(l:List a1)(a:Nat),a<18446744073709551616->l.foldl (fun a r=>a|||pK (f r)) a<18446744073709551616
 |[],_,h=>h
 |r::l,a,h=>Lr f l _ (D3 _ _ h (qR _))
theorem OI(l:List a1):AH l<18446744073709551616:=Lr (·.gb) l 0 (by omega)
theorem Nm(l:List a1):Af l<18446744073709551616:=Lr (·.eP) l 0 (by omega)
theorem aNN(l:List a1)(i:Nat)(r:a1)(h:l[i]? =some r):AH (l.take (i+1))=AH (l.take i)|||pK r.gb:=by
 rw[AH,hR,h,List.foldl_append];rfl
theorem aJl(l:List a1)(i:Nat)(r:a1)(h:l[i]? =some r):Af (l.take (i+1))=Af (l.take i)|||pK r.eP:=by
 rw[Af,hR,h,List.foldl_append];rfl
def Ef(l:List a1):Int:=
 match l[0]?,l[l.length -1]? with
 |some a,some b=>b.cB -a.cB
 |_,_=>0
def kT(p:dk)(l:List a1):Bool:=
 decide (0<l.length)&&(decide ((l.length:Int)<=p.b1)&&(decide (Ef l<=p.v3)&&(decide ((pop 64 (AH l):Int)<=p.gb)&&decide (x5 (Af l) (pK p.eP)=0))))
theorem XU(p:dk)(r gA:a1)(z m:Nat)(a7:z<18446744073709551616)(hm:m<18446744073709551616):
 cj av DC [.agg r.row,.ptr 1 0,.ptr 2 0] [.box p.row,.box [.int .u64 z],.box [.int .u64 m],.box gA.row] (fun v ah=>v=.tuple []/\ah=[.box p.row,.box [.int .u64 (z|||pK r.gb:Nat)],.box [.int .u64 (m|||pK r.eP:Nat)],.box gA.row]):=by
 refine bZ Sm (by simp[Cf]) ?_;simp-implicitDefEqProofs (disch:=omega) only[go_sem,Cf,a1.row,A4];first|refine b0 (EM _ _ a7 (qR _)) ?_|refine bV (EM _ _ a7 (qR _)) ?_
 simp-implicitDefEqProofs (disch:=omega) only[go_sem,A4];first|refine b0 (EM _ _ hm (qR _)) ?_|refine bV (EM _ _ hm (qR _)) ?_
 simp-implicitDefEqProofs (disch:=omega) only[go_sem,dk.row]
theorem Rp{α:Type}{l:List α}(h:0<l.length):∃a b,l[0]? =some a/\l[l.length -1]? =some b:=
 ⟨l[0],l[l.length -1],by simp[h],by simp⟩
theorem An(p:dk)(l:List a1)(c:c3)(ax:p.wf)(ag:∀r∈l,r.wf)(hlen:l.length<=maxLen):bQ av zW [.agg p.row,.slice (l.map a1.row) c] (fun v=>v=.bool (kT p l)):=by
 have hm:maxLen=9223372036854775807:=by rfl
 obtain⟨_,_,mX,aOx,e2,vm⟩:=ax;refine bZ Sn (by simp[Ce]) ?_;simp-implicitDefEqProofs (disch:=omega) only[go_sem,Ce,dk.row];refine a5 (fun h=>?_) (fun h=>?_)
 . have:kT p l=false:=by
    have:¬0<l.length:=by omega
    simp[kT,this]
   simp-implicitDefEqProofs (disch:=omega) only[go_sem,this]
 have a4:0<l.length:=by omega
 obtain⟨a,b,bk,aj⟩:=Rp a4;simp-implicitDefEqProofs (disch:=omega) only[go_sem];refine a5 (fun U=>?_) (fun U=>?_)
 . have:kT p l=false:=by
    have:¬(l.length:Int)<=p.b1:=by omega
    simp[kT,this]
   simp-implicitDefEqProofs (disch:=omega) only[go_sem,this]
 simp-implicitDefEqProofs (disch:=omega) only[go_sem,bk,aj,a1.row];first|refine b0 (VD _ _ _ ?_ ?_ e2) ?_|refine bV (VD _ _ _ ?_ ?_ e2) ?_
 . exact(ag a (dO bk)).1
 . exact(ag b (dO aj)).1
 have aOD:Ef l=b.cB -a.cB:=by simp only[Ef,bk,aj]
 simp-implicitDefEqProofs (disch:=omega) only[go_sem];refine a5 (fun af=>?_) (fun af=>?_)
 . have:kT p l=false:=by
    have:¬Ef l<=p.v3:=by omega
    simp[kT,this]
   simp-implicitDefEqProofs (disch:=omega) only[go_sem,this]
 simp-implicitDefEqProofs (disch:=omega) only[go_sem];refine ek l (fun i vs M=>vs=[.ptr 0 0,.ptr 1 0,.ptr 2 0,.fn DC [.ptr 1 0,.ptr 2 0],.slice (l.map a1.row) c,.int .i64 l.length,.int .i64 i]/\
  M=[.box p.row,.box [.int .u64 (AH (l.take i))],.box [.int .u64 (Af (l.take i))]]) ⟨rfl,rfl⟩ ?_ ?_
 . rintro i r vs M al hi aw ⟨rfl,rfl⟩
   simp-implicitDefEqProofs (disch:=omega) only[go_sem,aw,al,a1.row];refine ew (XU p r r _ _ (OI _) (Nm _)) ?_;rintro v ah ⟨rfl,rfl⟩;simp-implicitDefEqProofs (disch:=omega) only[go_sem];refine dC hi rfl ⟨rfl,?_⟩;rw[aNN l i r al,aJl l i r al];rfl
 . rintro vs M ⟨rfl,rfl⟩
   simp-implicitDefEqProofs (disch:=omega) only[go_sem,dg,g0];first|refine b0 (O7 _ (OI l)) ?_|refine bV (O7 _ (OI l)) ?_
   simp-implicitDefEqProofs (disch:=omega) only[go_sem,dk.row];refine a5 (fun ay=>?_) (fun ay=>?_)
   . simp-implicitDefEqProofs (disch:=omega) only[go_sem,A4]
     first|refine b0 (O8 _ _ (Nm l) (qR _)) ?_|refine bV (O8 _ _ (Nm l) (qR _)) ?_
     simp-implicitDefEqProofs (disch:=omega) only[go_sem,cL];have a6:(l.length:Int)<=p.b1:=by omega
     have ba:Ef l<=p.v3:=by omega
     simp[kT,a4,a6,ba,ay]
   . simp-implicitDefEqProofs (disch:=omega) only[go_sem]
     simp[kT,ay]
structure bd where
 cH:List dk
 tag:c3
 lq:Int
 within:Int
 mw:Int
def bd.row(f:bd):List V:=[.slice (f.cH.map dk.row) f.tag,.int .i64 f.lq,.int .i64 f.within,.int .i64 f.mw]
def bd.wf(f:bd):Prop:=(∀p∈f.cH,p.wf)/\f.cH.length<=maxLen/\el f.lq/\el f.within/\el f.mw
def nP(gI:List (List UInt8)):List (V×V):=gI.map fun s=>(.str s,.bool true)
theorem MY(s:List UInt8):∀gI,nD .str (.str s) (nP gI)=true
 |[]=>rfl
 |i::gI=>by
  show((hA .str (.str s) (.str i)).isSome&&nD .str (.str s) (nP gI))=true;rw[MY s gI];rfl
theorem UL(s:List UInt8):∀gI,rr .str (.str s) (nP gI)=if s∈gI then some (.bool true) else none
 |[]=>rfl
 |i::gI=>by
  show(bif (hA .str (.str s) (.str i)).getD false then some (V.bool true) else rr .str (.str s) (nP gI))=_;rw[UL s gI];by_cases h:s=i
  . subst h;simp[hA]
  . simp[hA,h]
theorem UR(s:List UInt8):∀gI,s∉gI->oi .str (.str s) (.bool true) (nP gI)=nP (gI++[s])
 |[],_=>rfl
 |i::gI,h=>by
  have U:s≠i:=fun e=>h (by simp[e]);have af:=UR s gI (fun e=>h (by simp[e]));show(bif (hA .str (.str s) (.str i)).getD false then _ else(V.str i,V.bool true)::oi .str (.str s) (.bool true) (nP gI))=_;rw[af];simp[hA,U,nP]
theorem W6(n:Nat):∀gI,nb n (nP gI)=true
 |[]=>rfl
 |i::gI=>by
  show(V.under n (.bool true)&&nb n (nP gI))=true;rw[W6 n gI];rfl
theorem aKb(vs:List V)(b:List V)(gI:List (List UInt8))(L:Mem)(U:cS 2 vs=true)(af:cS 2 b=true):hK 2 vs ([.box b,.map (nP gI)]++L)=true:=by
 simp[hK,U,cL,a2.under,af,W6]
theorem aIC(s:List UInt8)(gI:List (List UInt8)):nF .str (.bool false) false (.str s) (nP gI)=some (.bool (decide (s∈gI))):=by
 simp only[nF,oh,m2,kw,vJ,cond_true,ja,MY,UL,Fc];by_cases ak:s∈gI<;>simp[ak]
theorem aML{s:List UInt8}{gI:List (List UInt8)}(ak:s∉gI):nR .str (.str s) (.bool true) (nP gI)=some (nP (gI++[s])):=by
 simp only[nR,kw,vJ,MY,V.iA,eR,cond_true,UR s gI ak]
def pt(l:List dk)(i:Nat):Int:=
 match l[i]? with
 |none=>0
 |some p=>if k5 p.id=false then 12 else if p.id∈(l.take i).map dk.id then 6 else if p.right=false then 2 else 0
def j6(f:bd):Int×Int:=
 if within f.lq 0 1000000=true/\within f.within 0 86400=true/\within f.mw 0 1000000=true then
  if 16<f.cH.length then(0,5) else sc (pt f.cH) f.cH.length
 else(-1,2)
def ic(p:Int×Int):V:=.tuple [.int .i64 p.1,.int .i64 p.2]
theorem D7(f:bd)(aC:f.wf):bQ av zV [.agg f.row] (fun v=>v=ic (j6 f)):=by
 refine bZ Sl (by simp[Cd]) ?_;simp-implicitDefEqProofs (disch:=omega) only[go_sem,Cd,bd.row];first|refine b0 (m7 _ _ _) ?_|refine bV (m7 _ _ _) ?_
 simp-implicitDefEqProofs (disch:=omega) only[go_sem];refine cp (fun U=>?_) (fun U=>?_);rotate_left
 . simp-implicitDefEqProofs (disch:=omega) only[go_sem,ic,j6,U]
   rfl
 simp-implicitDefEqProofs (disch:=omega) only[go_sem];first|refine b0 (m7 _ _ _) ?_|refine bV (m7 _ _ _) ?_
 simp-implicitDefEqProofs (disch:=omega) only[go_sem];refine cp (fun af=>?_) (fun af=>?_);rotate_left
 . simp-implicitDefEqProofs (disch:=omega) only[go_sem,ic,j6,U,af]
   rfl
 simp-implicitDefEqProofs (disch:=omega) only[go_sem];first|refine b0 (m7 _ _ _) ?_|refine bV (m7 _ _ _) ?_
 simp-implicitDefEqProofs (disch:=omega) only[go_sem];refine cp (fun ay=>?_) (fun ay=>?_);rotate_left
 . simp-implicitDefEqProofs (disch:=omega) only[go_sem,ic,j6,U,af,ay]
   rfl
 simp-implicitDefEqProofs (disch:=omega) only[go_sem];refine a5 (fun be=>?_) (fun be=>?_)
 . have:16<f.cH.length:=by omega
   simp-implicitDefEqProofs (disch:=omega) only[go_sem,ic,j6,U,af,ay,this];rfl
 have Ly:¬16<f.cH.length:=by omega
 have fk:j6 f=sc (pt f.cH) f.cH.length:=by simp[j6,U,af,ay,Ly]
 simp-implicitDefEqProofs (disch:=omega) only[go_sem,fk];refine ek f.cH (fun i vs M=>(∀k,k<i->pt f.cH k=0)/\vs=[.map 1,.slice (f.cH.map dk.row) f.tag,.int .i64 f.cH.length,.int .i64 i]/\
  M=[.box f.row,.map (nP ((f.cH.take i).map dk.id))]) ⟨fun k ao=>absurd ao (fb k),rfl,rfl⟩ ?_ ?_
 . rintro i p vs M ax hi aw ⟨d9,rfl,rfl⟩
   have fin:∀e,pt f.cH i=e->e≠0->V.tuple [.int .i64 i,.int .i64 e]=ic (sc (pt f.cH) f.cH.length):=fun e U af=>by
    rw[aBR hi d9 (by rw[U];exact af),U];rfl
   have sm:pt f.cH i=if k5 p.id=false then 12 else if p.id∈(f.cH.take i).map dk.id then 6 else if p.right=false then 2 else 0:=by simp only[pt,ax]
   simp-implicitDefEqProofs (disch:=omega) only[go_sem,aw,ax,dk.row];first|refine b0 (vF _ (aC.1 p (dO ax)).1) ?_|refine bV (vF _ (aC.1 p (dO ax)).1) ?_
   simp-implicitDefEqProofs (disch:=omega) only[go_sem];refine cp (fun aW=>?_) (fun aW=>?_);rotate_left
   . simp-implicitDefEqProofs (disch:=omega) only[go_sem]
     exact fin 12 (by rw[sm,if_pos aW]) (by decide)
   have tr:¬k5 p.id=false:=by simp[aW]
   simp-implicitDefEqProofs (disch:=omega) only[go_sem,aIC];refine a5 (fun a9=>?_) (fun a9=>?_)
   . simp-implicitDefEqProofs (disch:=omega) only[go_sem]
     exact fin 6 (by rw[sm,if_neg tr,if_pos a9]) (by decide)
   have AX:p.right=false->pt f.cH i=2:=fun h=>by rw[sm,if_neg tr,if_neg a9,if_pos h]
   simp-implicitDefEqProofs (disch:=omega) only[go_sem];first|refine b0 (m7 _ _ _) ?_|refine bV (m7 _ _ _) ?_
   simp-implicitDefEqProofs (disch:=omega) only[go_sem];refine cp (fun bH=>?_) (fun bH=>?_);rotate_left
   . simp-implicitDefEqProofs (disch:=omega) only[go_sem]
     exact fin 2 (AX (by simp[dk.right,bH])) (by decide)
   simp-implicitDefEqProofs (disch:=omega) only[go_sem];first|refine b0 (m7 _ _ _) ?_|refine bV (m7 _ _ _) ?_
   simp-implicitDefEqProofs (disch:=omega) only[go_sem];refine cp (fun b8=>?_) (fun b8=>?_);rotate_left
   . simp-implicitDefEqProofs (disch:=omega) only[go_sem]
     exact fin 2 (AX (by simp[dk.right,b8])) (by decide)
   simp-implicitDefEqProofs (disch:=omega) only[go_sem];first|refine b0 (m7 _ _ _) ?_|refine bV (m7 _ _ _) ?_
   simp-implicitDefEqProofs (disch:=omega) only[go_sem];refine cp (fun dS=>?_) (fun dS=>?_);rotate_left
   . simp-implicitDefEqProofs (disch:=omega) only[go_sem]
     exact fin 2 (AX (by simp[dk.right,dS])) (by decide)
   simp-implicitDefEqProofs (disch:=omega) only[go_sem];first|refine b0 (m7 _ _ _) ?_|refine bV (m7 _ _ _) ?_
   simp-implicitDefEqProofs (disch:=omega) only[go_sem];refine cp (fun fr=>?_) (fun fr=>?_);rotate_left
   . simp-implicitDefEqProofs (disch:=omega) only[go_sem]
     exact fin 2 (AX (by simp[dk.right,fr])) (by decide)
   simp-implicitDefEqProofs (disch:=omega) only[go_sem];first|refine b0 (m7 _ _ _) ?_|refine bV (m7 _ _ _) ?_
   simp-implicitDefEqProofs (disch:=omega) only[go_sem];refine cp (fun fs=>?_) (fun fs=>?_);rotate_left
   . simp-implicitDefEqProofs (disch:=omega) only[go_sem]
     exact fin 2 (AX (by simp[dk.right,fs])) (by decide)
   simp-implicitDefEqProofs (disch:=omega) only[go_sem,aML a9];refine dC hi (aKb _ _ _ _ rfl rfl) ⟨fun k ao=>?_,rfl,?_⟩
   . rcases mG k i with bw|o5
     . exact d9 k bw
     . have:k=i:=by omega
       subst this;rw[sm,if_neg tr,if_neg a9,if_neg (by simp[dk.right,bH,b8,dS,fr,fs])]
   . have e:(f.cH.take (i+1)).map dk.id=(f.cH.take i).map dk.id++[p.id]:=by rw[hR,ax,List.map_append]<;>rfl
     rw[e];rfl
 . rintro vs M ⟨d9,rfl,rfl⟩
   simp-implicitDefEqProofs (disch:=omega) only[go_sem,dg,Ro d9,ic]
theorem aBS{e:Nat->Int}{n:Nat}(h:(sc e n).2=0):∀k,k<n->e k=0:=by
 intro k ao;unfold sc at h;cases aC:(c1 n).find? (fun k=>decide (e k≠0)) with
 |none=>
  rw[List.find?_eq_none] at aC;have:=aC k (jY.2 ao);simpa using this
 |some j=>
  rw[aC] at h;have:=List.find?_some aC;simp only[ne_eq,decide_not,lH,decide_eq_false_iff_not] at this;exact absurd h this
theorem within_iff{n a b:Int}:within n a b=true↔a<=n/\n<=b:=by simp[within]
structure bd.hS(f:bd):Prop where
 lq:0<=f.lq/\f.lq<=1000000
 within:0<=f.within/\f.within<=86400
 mw:0<=f.mw/\f.mw<=1000000
 len:f.cH.length<=16
 vT:∀p∈f.cH,(0<=p.ga/\p.ga<=1000000)/\(1<=p.b1/\p.b1<=8)/\(1<=p.gb/\p.gb<=16)/\(0<=p.v3/\p.v3<=86400)/\(1<=p.eP/\p.eP<=255)
theorem wK{f:bd}(h:(j6 f).2=0):f.hS:=by
 unfold j6 at h;split at h
 . rename_i hw
   split at h
   . simp at h
   . rename_i ag
     have a7:=aBS h;refine⟨within_iff.1 hw.1,within_iff.1 hw.2.1,within_iff.1 hw.2.2,by omega,fun p ax=>?_⟩;obtain⟨i,hi⟩:=ij ax;have:=a7 i (bn.1 hi).1;simp only[pt,hi] at this;split at this
     . simp at this
     . split at this
       . simp at this
       . split at this
         . simp at this
         . rename_i al
           simp only[Bool.not_eq_false,dk.right,b_,within_iff] at al;exact al
 . simp at h
def Am(p:Int×Bool):V:=.tuple [.int .i64 p.1,.bool p.2]
end Go.aQ.C
namespace Go.aQ.C
open Go.aQ
structure Stop where
 id:List UInt8
 kh:Int
 free:Bool
 change:Int
def Stop.row(s:Stop):List V:=[.str s.id,.int .i64 s.kh,.bool s.free,.int .i64 s.change]
def Stop.wf(s:Stop):Prop:=s.id.length<=maxLen/\el s.kh/\el s.change
structure fi where
 id:List UInt8
 mode:Int
 AY:Bool
def fi.row(r:fi):List V:=[.str r.id,.int .i64 r.mode,.bool r.AY]
def fi.wf(r:fi):Prop:=r.id.length<=maxLen/\el r.mode
structure bS where
 uu:Int
 day:Int
 inst:Int
 id:List UInt8
 iu:Int
 free:Bool
 gone:Bool
 calls:List cd
 tag:c3
def bS.row(r:bS):List V:=[.int .i64 r.uu,.int .i64 r.day,.int .i64 r.inst,.str r.id,.int .i64 r.iu,.bool r.free,.bool r.gone,.slice (r.calls.map cd.row) r.tag]
def bS.wf(r:bS):Prop:=el r.uu/\el r.day/\el r.inst/\r.id.length<=maxLen/\el r.iu/\(∀c∈r.calls,c.wf)/\r.calls.length<=maxLen
structure dA where
 src:Int
 hY:Int
 dst:Int
 j7:Int
 stay:Bool
def dA.row(l:dA):List V:=[.int .i64 l.src,.int .i64 l.hY,.int .i64 l.dst,.int .i64 l.j7,.bool l.stay]
def dA.wf(l:dA):Prop:=el l.src/\el l.hY/\el l.dst/\el l.j7
structure Path where
 src:Int
 dst:Int
 dI:Int
 free:Bool
 deriving DecidableEq
def Path.row(p:Path):List V:=[.int .i64 p.src,.int .i64 p.dst,.int .i64 p.dI,.bool p.free]
def Path.wf(p:Path):Prop:=el p.src/\el p.dst/\el p.dI
structure Net where
 stops:List Stop
 fK:List fi
 runs:List bS
 b9:List dA
 paths:List Path
 cY:bd
 mB:c3
 rc:c3
 rQ:c3
 lc:c3
 ql:c3
def Net.row(n:Net):List V:=[.slice (n.stops.map Stop.row) n.mB,.slice (n.fK.map fi.row) n.rc,.slice (n.runs.map bS.row) n.rQ,.slice (n.b9.map dA.row) n.lc,.slice (n.paths.map Path.row) n.ql,
 .slice (n.cY.cH.map dk.row) n.cY.tag,.int .i64 n.cY.lq,.int .i64 n.cY.within,.int .i64 n.cY.mw]
structure Net.wf(n:Net):Prop where
 stops:(∀s∈n.stops,s.wf)/\n.stops.length<=maxLen
 fK:(∀s∈n.fK,s.wf)/\n.fK.length<=maxLen
 runs:(∀s∈n.runs,s.wf)/\n.runs.length<=maxLen
 b9:(∀s∈n.b9,s.wf)/\n.b9.length<=maxLen
 paths:(∀s∈n.paths,s.wf)/\n.paths.length<=maxLen
 cY:n.cY.wf
def EN(l:List Stop):Prop:=l.length<=64/\∀(i:Nat)(s:Stop),l[i]? =some s->k5 s.id=true/\(0<=s.kh/\s.kh<=15)/\(0<=s.change/\s.change<=3600)/\∀(k:Nat)(t:Stop),k<i->l[k]? =some t->t.id≠s.id
def AS(l:List fi):Prop:=l.length<=64/\∀(i:Nat)(s:fi),l[i]? =some s->k5 s.id=true/\(0<=s.mode/\s.mode<=7)/\∀(k:Nat)(t:fi),k<i->l[k]? =some t->t.id≠s.id
def Ey(l:List cd)(stops:Int)(low high:Int)(i:Nat):Prop:=∀c,l[i]? =some c->(0<=c.stop/\c.stop<stops)/\(low<=c.c_/\c.c_<=c.cB/\c.cB<=high)/\∀p,0<i->l[i -1]? =some p->p.stop≠c.stop/\p.cB<=c.c_
def AL(l:List cd)(stops low high:Int):Prop:=2<=l.length/\l.length<=32/\∀i,Ey l stops low high i
def bS.key(r:bS):List UInt8×Int×Int:=(r.id,r.day,r.inst)
def Kk(n:Net)(i:Nat):Prop:=∀r,n.runs[i]? =some r->k5 r.id=true/\-1<=r.uu/\0<=r.inst/\(0<=r.day/\r.day<=36524)/\(0<=r.iu/\r.iu<n.fK.length)/\AL r.calls n.stops.length 0 3155932800/\
 ∀(k:Nat)(o:bS),k<i->n.runs[k]? =some o->o.key≠r.key
def yR(n:Net):Prop:=n.runs.length<=1024/\∀i,Kk n i
theorem ge(n low high:Int):bQ av kc [.int .i64 n,.int .i64 low,.int .i64 high] (fun v=>v=.bool (within n low high)):=by
 refine bZ aDm (by simp[GA]) ?_;simp-implicitDefEqProofs (disch:=omega) only[go_sem,GA];cases h:decide (low<=n)
 . simp-implicitDefEqProofs (disch:=omega) only[go_sem,within,h]
 . simp-implicitDefEqProofs (disch:=omega) only[go_sem,within,h]
theorem qa(n low high:Int):bQ av tT [.int .i64 n,.int .i64 low,.int .i64 high] (fun v=>v=.bool (within n low high)):=by
 refine bZ aDv (by simp[GK]) ?_;simp-implicitDefEqProofs (disch:=omega) only[go_sem,GK];cases h:decide (low<=n)
 . simp-implicitDefEqProofs (disch:=omega) only[go_sem,within,h]
 . simp-implicitDefEqProofs (disch:=omega) only[go_sem,within,h]
theorem uH(s:List UInt8)(ak:s.length<=maxLen):bQ av xP [.str s] (fun v=>v=.bool (k5 s)):=by
 have hm:maxLen=9223372036854775807:=by rfl
 refine bZ aDk (by simp[Gz]) ?_;simp-implicitDefEqProofs (disch:=omega) only[go_sem,Gz];refine a5 (fun h=>?_) (fun U=>?_)
 . have:k5 s=false:=by
    have:¬0<s.length:=by omega
    simp[k5,this]
   simp-implicitDefEqProofs (disch:=omega) only[go_sem,this]
 simp-implicitDefEqProofs (disch:=omega) only[go_sem];refine a5 (fun h=>?_) (fun af=>?_)
 . have:k5 s=false:=by
    have:¬s.length<=32:=by omega
    simp[k5,this]
   simp-implicitDefEqProofs (disch:=omega) only[go_sem,this]
 simp-implicitDefEqProofs (disch:=omega) only[go_sem];refine ek s (fun i vs M=>(s.take i).all ya=true/\vs=[.str s,.int .i64 i]/\M=[]) ⟨by simp,rfl,rfl⟩ ?_ ?_
 . rintro i c vs M ar hi aw ⟨d9,rfl,rfl⟩
   simp-implicitDefEqProofs (disch:=omega) only[go_sem,aw,ar]
   repeat' (first|simp-implicitDefEqProofs (disch:=omega) only[go_sem]|refine a5 (fun h=>?_) (fun h=>?_))
   all_goals first
    |(refine c6 hi ⟨?_,rfl,rfl⟩
      rw[Py ar,d9,(Nr c).2 (by omega)];rfl)
    |(rw[Ve ar (Vd c (by omega))])
 . rintro vs M ⟨d9,rfl,rfl⟩
   rw[g0] at d9;simp-implicitDefEqProofs (disch:=omega) only[go_sem,dg];have ay:0<s.length:=by omega
   have be:s.length<=32:=by omega
   simp[k5,d9,ay,be]
def fW(G:Prop)(v:V):Prop:=∃i e:Int,v=.tuple [.int .i64 i,.int .i64 e]/\(e=0->G)
theorem fW.err{G:Prop}(i e:Int)(he:e≠0):fW G (.tuple [.int .i64 i,.int .i64 e]):=⟨i,e,rfl,fun h=>absurd h he⟩
theorem fW.ok{G:Prop}(i:Int)(h:G):fW G (.tuple [.int .i64 i,.int .i64 0]):=⟨i,0,rfl,fun _=>h⟩
end Go.aQ.C
namespace Go.aQ.C
open Go.aQ
theorem aKQ(l:List Stop)(c:c3)(ag:∀s∈l,s.wf)(hlen:l.length<=maxLen):bQ av IV [.slice (l.map Stop.row) c] (fW (EN l)):=by
 have hm:maxLen=9223372036854775807:=by rfl
 refine bZ aDs (by simp[GH]) ?_;simp-implicitDefEqProofs (disch:=omega) only[go_sem,GH];refine a5 (fun h=>?_) (fun a4=>?_)
 . simp-implicitDefEqProofs (disch:=omega) only[go_sem]
   exact fW.err _ _ (by omega)
 simp-implicitDefEqProofs (disch:=omega) only[go_sem];refine ek l (fun i vs M=>vs=[.slice (l.map Stop.row) c,.int .i64 i]/\M=[]/\∀(j:Nat)(s:Stop),j<i->l[j]? =some s->k5 s.id=true/\(0<=s.kh/\s.kh<=15)/\(0<=s.change/\s.change<=3600)/\∀(k:Nat)(t:Stop),k<j->l[k]? =some t->t.id≠s.id)
  ⟨rfl,rfl,fun j s ap=>absurd ap (fb _)⟩ ?_ ?_;rotate_left
 . rintro vs M ⟨rfl,rfl,H⟩
   simp-implicitDefEqProofs (disch:=omega) only[go_sem,dg];exact fW.ok _ ⟨by omega,fun i s ak=>H i s (bn.1 ak).1 ak⟩
 rintro i s vs M ak hi aw ⟨rfl,rfl,H⟩;have vt:=ag s (dO ak);simp-implicitDefEqProofs (disch:=omega) only[go_sem,aw,ak,Stop.row];first|refine b0 (uH s.id vt.1) ?_|refine bV (uH s.id vt.1) ?_
 simp-implicitDefEqProofs (disch:=omega) only[go_sem];refine cp (fun aK=>?_) (fun aK=>?_);rotate_left
 . simp-implicitDefEqProofs (disch:=omega) only[go_sem]
   exact fW.err _ _ (by omega)
 simp-implicitDefEqProofs (disch:=omega) only[go_sem];refine gg i (fun k vs M=>vs=[.slice (l.map Stop.row) c,.int .i64 i,.int .i64 k]/\M=[]/\∀(j:Nat)(t:Stop),j<k->l[j]? =some t->t.id≠s.id) ⟨rfl,rfl,fun j s ap=>absurd ap (fb _)⟩ ?_ ?_
 . rintro k vs M ao fw ⟨rfl,rfl,h2⟩
   obtain⟨t,aT⟩:∃t,l[k]? =some t:=⟨l[k],by simp⟩;simp-implicitDefEqProofs (disch:=omega) only[go_sem,fw,ak,aT,Stop.row];refine a5 (fun he=>?_) (fun he=>?_)
   . simp-implicitDefEqProofs (disch:=omega) only[go_sem]
     exact fW.err _ _ (by omega)
   . simp-implicitDefEqProofs (disch:=omega) only[go_sem]
     refine c6 ao ⟨rfl,rfl,fun j u ap hu=>?_⟩;rcases jn.1 ap with h|h
     . exact h2 j u h hu
     . subst h;rw[aT] at hu;cases hu;exact he
 rintro vs M ⟨rfl,rfl,h2⟩;simp-implicitDefEqProofs (disch:=omega) only[go_sem,dg,ak,Stop.row];first|refine b0 (ge _ _ _) ?_|refine bV (ge _ _ _) ?_
 simp-implicitDefEqProofs (disch:=omega) only[go_sem];refine cp (fun U=>?_) (fun U=>?_);rotate_left
 . simp-implicitDefEqProofs (disch:=omega) only[go_sem]
   exact fW.err _ _ (by omega)
 simp-implicitDefEqProofs (disch:=omega) only[go_sem,ak,Stop.row];first|refine b0 (ge _ _ _) ?_|refine bV (ge _ _ _) ?_
 simp-implicitDefEqProofs (disch:=omega) only[go_sem];refine cp (fun af=>?_) (fun af=>?_);rotate_left
 . simp-implicitDefEqProofs (disch:=omega) only[go_sem]
   exact fW.err _ _ (by omega)
 simp-implicitDefEqProofs (disch:=omega) only[go_sem];refine c6 hi ⟨rfl,rfl,fun j u ap hu=>?_⟩;rcases jn.1 ap with h|h
 . exact H j u h hu
 . subst h;rw[ak] at hu;cases hu
   exact⟨aK,within_iff.1 U,within_iff.1 af,h2⟩
theorem aKO(l:List fi)(c:c3)(ag:∀s∈l,s.wf)(hlen:l.length<=maxLen):bQ av IT [.slice (l.map fi.row) c] (fW (AS l)):=by
 have hm:maxLen=9223372036854775807:=by rfl
 refine bZ aDq (by simp[GF]) ?_;simp-implicitDefEqProofs (disch:=omega) only[go_sem,GF];refine a5 (fun h=>?_) (fun a4=>?_)
 . simp-implicitDefEqProofs (disch:=omega) only[go_sem]
   exact fW.err _ _ (by omega)
 simp-implicitDefEqProofs (disch:=omega) only[go_sem];refine ek l (fun i vs M=>vs=[.slice (l.map fi.row) c,.int .i64 i]/\M=[]/\∀(j:Nat)(s:fi),j<i->l[j]? =some s->k5 s.id=true/\(0<=s.mode/\s.mode<=7)/\∀(k:Nat)(t:fi),k<j->l[k]? =some t->t.id≠s.id)
  ⟨rfl,rfl,fun j s ap=>absurd ap (fb _)⟩ ?_ ?_;rotate_left
 . rintro vs M ⟨rfl,rfl,H⟩
   simp-implicitDefEqProofs (disch:=omega) only[go_sem,dg];exact fW.ok _ ⟨by omega,fun i s ak=>H i s (bn.1 ak).1 ak⟩
 rintro i s vs M ak hi aw ⟨rfl,rfl,H⟩;have vt:=ag s (dO ak);simp-implicitDefEqProofs (disch:=omega) only[go_sem,aw,ak,fi.row];first|refine b0 (uH s.id vt.1) ?_|refine bV (uH s.id vt.1) ?_
 simp-implicitDefEqProofs (disch:=omega) only[go_sem];refine cp (fun aK=>?_) (fun aK=>?_);rotate_left
 . simp-implicitDefEqProofs (disch:=omega) only[go_sem]
   exact fW.err _ _ (by omega)
 simp-implicitDefEqProofs (disch:=omega) only[go_sem];refine gg i (fun k vs M=>vs=[.slice (l.map fi.row) c,.int .i64 i,.int .i64 k]/\M=[]/\∀(j:Nat)(t:fi),j<k->l[j]? =some t->t.id≠s.id) ⟨rfl,rfl,fun j s ap=>absurd ap (fb _)⟩ ?_ ?_
 . rintro k vs M ao fw ⟨rfl,rfl,h2⟩
   obtain⟨t,aT⟩:∃t,l[k]? =some t:=⟨l[k],by simp⟩;simp-implicitDefEqProofs (disch:=omega) only[go_sem,fw,ak,aT,fi.row];refine a5 (fun he=>?_) (fun he=>?_)
   . simp-implicitDefEqProofs (disch:=omega) only[go_sem]
     exact fW.err _ _ (by omega)
   . simp-implicitDefEqProofs (disch:=omega) only[go_sem]
     refine c6 ao ⟨rfl,rfl,fun j u ap hu=>?_⟩;rcases jn.1 ap with h|h
     . exact h2 j u h hu
     . subst h;rw[aT] at hu;cases hu;exact he
 rintro vs M ⟨rfl,rfl,h2⟩;simp-implicitDefEqProofs (disch:=omega) only[go_sem,dg,ak,fi.row];first|refine b0 (ge _ _ _) ?_|refine bV (ge _ _ _) ?_
 simp-implicitDefEqProofs (disch:=omega) only[go_sem];refine cp (fun U=>?_) (fun U=>?_);rotate_left
 . simp-implicitDefEqProofs (disch:=omega) only[go_sem]
   exact fW.err _ _ (by omega)
 simp-implicitDefEqProofs (disch:=omega) only[go_sem];refine c6 hi ⟨rfl,rfl,fun j u ap hu=>?_⟩;rcases jn.1 ap with h|h
 . exact H j u h hu
 . subst h;rw[ak] at hu;cases hu
   exact⟨aK,within_iff.1 U,h2⟩
end Go.aQ.C
namespace Go.aQ.C
open Go.aQ
def fy(G:Prop)(v:V):Prop:=∃e:Int,v=.int .i64 e/\(e=0->G)
theorem fy.err{G:Prop}(e:Int)(he:e≠0):fy G (.int .i64 e):=⟨e,rfl,fun h=>absurd h he⟩
theorem fy.ok{G:Prop}(h:G):fy G (.int .i64 0):=⟨0,rfl,fun _=>h⟩
theorem aKE(l:List cd)(c:c3)(stops low high:Int)(ag:∀s∈l,s.wf)(hlen:l.length<=maxLen):bQ av IK [.slice (l.map cd.row) c,.int .i64 stops,.int .i64 low,.int .i64 high] (fy (AL l stops low high)):=by
 have hm:maxLen=9223372036854775807:=by rfl
 refine bZ aDe (by simp[Gs]) ?_;simp-implicitDefEqProofs (disch:=omega) only[go_sem,Gs];refine a5 (fun h=>?_) (fun a4=>?_)
 . simp-implicitDefEqProofs (disch:=omega) only[go_sem]
   exact fy.err _ (by omega)
 simp-implicitDefEqProofs (disch:=omega) only[go_sem];refine a5 (fun h=>?_) (fun U=>?_)
 . simp-implicitDefEqProofs (disch:=omega) only[go_sem]
   exact fy.err _ (by omega)
 simp-implicitDefEqProofs (disch:=omega) only[go_sem];refine ek l (fun i vs M=>vs=[.slice (l.map cd.row) c,.int .i64 stops,.int .i64 low,.int .i64 high,.int .i64 i]/\M=[]/\∀j,j<i->Ey l stops low high j) ⟨rfl,rfl,fun j ap=>absurd ap (fb _)⟩ ?_ ?_;rotate_left
 . rintro vs M ⟨rfl,rfl,H⟩
   simp-implicitDefEqProofs (disch:=omega) only[go_sem,dg];exact fy.ok ⟨by omega,by omega,fun i s ak=>H i (bn.1 ak).1 s ak⟩
 rintro i s vs M ak hi aw ⟨rfl,rfl,H⟩;simp-implicitDefEqProofs (disch:=omega) only[go_sem,aw,ak,cd.row];refine a5 (fun h=>?_) (fun aW=>?_)
 . simp-implicitDefEqProofs (disch:=omega) only[go_sem]
   exact fy.err _ (by omega)
 simp-implicitDefEqProofs (disch:=omega) only[go_sem];refine a5 (fun h=>?_) (fun a9=>?_)
 . simp-implicitDefEqProofs (disch:=omega) only[go_sem]
   exact fy.err _ (by omega)
 have last:(∀p,0<i->l[i -1]? =some p->p.stop≠s.stop/\p.cB<=s.c_)->(low<=s.c_/\s.c_<=s.cB/\s.cB<=high)->∀j,j<i+1->Ey l stops low high j:=fun bH b8 j ap=>by
  rcases jn.1 ap with h|h
  . exact H j h
  . subst h
    intro c ar;rw[ak] at ar;cases ar;exact⟨⟨by omega,by omega⟩,b8,bH⟩
 simp-implicitDefEqProofs (disch:=omega) only[go_sem];refine a5 (fun af=>?_) (fun af=>?_);rotate_left
 . have zu:i=0:=by omega
   simp-implicitDefEqProofs (disch:=omega) only[go_sem];refine a5 (fun h=>?_) (fun bN=>?_)
   . simp-implicitDefEqProofs (disch:=omega) only[go_sem]
     exact fy.err _ (by omega)
   simp-implicitDefEqProofs (disch:=omega) only[go_sem];refine a5 (fun h=>?_) (fun c5=>?_)
   . simp-implicitDefEqProofs (disch:=omega) only[go_sem]
     exact fy.err _ (by omega)
   simp-implicitDefEqProofs (disch:=omega) only[go_sem];refine a5 (fun h=>?_) (fun er=>?_)
   . simp-implicitDefEqProofs (disch:=omega) only[go_sem]
     exact fy.err _ (by omega)
   simp-implicitDefEqProofs (disch:=omega) only[go_sem];refine a5 (fun h=>?_) (fun eT=>?_)
   . omega
   simp-implicitDefEqProofs (disch:=omega) only[go_sem];exact dC hi rfl ⟨rfl,rfl,last (fun p h=>by omega) ⟨by omega,by omega,by omega⟩⟩
 obtain⟨p,ax⟩:∃p,l[i -1]? =some p:=⟨l[i -1],by simp⟩;have ve:((i:Int) -1).toNat=i -1:=by omega
 have mm:0<=(i:Int) -1:=by omega
 have hw:IntKind.i64.wrap ((i:Int) -1)=(i:Int) -1:=by rw[nz];omega
 have C2:((i:Int) -1)=((i -1:Nat):Int):=by omega
 simp-implicitDefEqProofs (disch:=omega) only[go_sem,C2,ax,cd.row];refine a5 (fun h=>?_) (fun bN=>?_)
 . simp-implicitDefEqProofs (disch:=omega) only[go_sem]
   exact fy.err _ (by omega)
 simp-implicitDefEqProofs (disch:=omega) only[go_sem];refine a5 (fun h=>?_) (fun c5=>?_)
 . simp-implicitDefEqProofs (disch:=omega) only[go_sem]
   exact fy.err _ (by omega)
 simp-implicitDefEqProofs (disch:=omega) only[go_sem];refine a5 (fun h=>?_) (fun er=>?_)
 . simp-implicitDefEqProofs (disch:=omega) only[go_sem]
   exact fy.err _ (by omega)
 simp-implicitDefEqProofs (disch:=omega) only[go_sem];refine a5 (fun h=>?_) (fun eT=>?_)
 . simp-implicitDefEqProofs (disch:=omega) only[go_sem]
   exact fy.err _ (by omega)
 simp-implicitDefEqProofs (disch:=omega) only[go_sem];refine a5 (fun h=>?_) (fun iy=>?_);rotate_left
 . omega
 simp-implicitDefEqProofs (disch:=omega) only[go_sem,C2,ax,cd.row];refine a5 (fun h=>?_) (fun lu=>?_)
 . simp-implicitDefEqProofs (disch:=omega) only[go_sem]
   exact fy.err _ (by omega)
 simp-implicitDefEqProofs (disch:=omega) only[go_sem];refine dC hi rfl ⟨rfl,rfl,last (fun q h aG=>?_) ⟨by omega,by omega,by omega⟩⟩;rw[ax] at aG;cases aG;exact⟨bN,by omega⟩
theorem aKP(n:Net)(i:Nat)(r:bS)(aK:n.wf)(al:n.runs[i]? =some r):bQ av IU [.agg n.row,.int .i64 i] (fy (Kk n i)):=by
 have hm:maxLen=9223372036854775807:=by rfl
 have lX:=aK.runs.1 r (dO al);have kZ:=(bn.1 al).1;have n8:=aK.runs.2;refine bZ aDr (by simp[GG]) ?_;simp-implicitDefEqProofs (disch:=omega) only[go_sem,GG,Net.row,al,bS.row];first|refine b0 (uH r.id lX.2.2.2.1) ?_|refine bV (uH r.id lX.2.2.2.1) ?_
 simp-implicitDefEqProofs (disch:=omega) only[go_sem];refine cp (fun aW=>?_) (fun aW=>?_);rotate_left
 . simp-implicitDefEqProofs (disch:=omega) only[go_sem]
   exact fy.err _ (by omega)
 simp-implicitDefEqProofs (disch:=omega) only[go_sem];refine a5 (fun h=>?_) (fun a9=>?_)
 . simp-implicitDefEqProofs (disch:=omega) only[go_sem]
   exact fy.err _ (by omega)
 simp-implicitDefEqProofs (disch:=omega) only[go_sem];refine a5 (fun h=>?_) (fun bN=>?_)
 . simp-implicitDefEqProofs (disch:=omega) only[go_sem]
   exact fy.err _ (by omega)
 simp-implicitDefEqProofs (disch:=omega) only[go_sem];first|refine b0 (ge _ _ _) ?_|refine bV (ge _ _ _) ?_
 simp-implicitDefEqProofs (disch:=omega) only[go_sem];refine cp (fun c5=>?_) (fun c5=>?_);rotate_left
 . simp-implicitDefEqProofs (disch:=omega) only[go_sem]
   exact fy.err _ (by omega)
 simp-implicitDefEqProofs (disch:=omega) only[go_sem];refine a5 (fun h=>?_) (fun er=>?_)
 . simp-implicitDefEqProofs (disch:=omega) only[go_sem]
   exact fy.err _ (by omega)
 simp-implicitDefEqProofs (disch:=omega) only[go_sem];refine a5 (fun h=>?_) (fun eT=>?_)
 . simp-implicitDefEqProofs (disch:=omega) only[go_sem]
   exact fy.err _ (by omega)
 simp-implicitDefEqProofs (disch:=omega) only[go_sem];refine fI (aKE r.calls r.tag n.stops.length 0 3155932800 lX.2.2.2.2.2.1 lX.2.2.2.2.2.2) ?_;rintro v ⟨e,rfl,LY⟩;simp-implicitDefEqProofs (disch:=omega) only[go_sem];refine a5 (fun h=>?_) (fun iy=>?_)
 . have he:e=0:=by omega
   subst he;simp-implicitDefEqProofs (disch:=omega) only[go_sem];refine gg i (fun k vs M=>vs=[.int .i64 i,.ptr 0 0,.ptr 1 0,.int .i64 k]/\M=[.box n.row,.box r.row]/\∀(j:Nat)(o:bS),j<k->n.runs[j]? =some o->o.key≠r.key) ⟨rfl,rfl,fun j s ap=>absurd ap (fb _)⟩ ?_ ?_;rotate_left
   . rintro vs M ⟨rfl,rfl,H⟩
     simp-implicitDefEqProofs (disch:=omega) only[go_sem,dg];refine fy.ok fun gA jO=>?_;rw[al] at jO;cases jO;exact⟨aW,by omega,by omega,within_iff.1 c5,⟨by omega,by omega⟩,LY rfl,H⟩
   rintro k vs M ao fw ⟨rfl,rfl,H⟩;obtain⟨o,az⟩:∃o,n.runs[k]? =some o:=⟨n.runs[k],by simp⟩;have last:o.key≠r.key->∀(j:Nat)(x:bS),j<k+1->n.runs[j]? =some x->x.key≠r.key:=fun cr j x ap ab=>by
    rcases jn.1 ap with h|h
    . exact H j x h ab
    . subst h;rw[az] at ab;cases ab;exact cr
   simp-implicitDefEqProofs (disch:=omega) only[go_sem,fw,az,Net.row,bS.row];refine a5 (fun bU=>?_) (fun bU=>?_);rotate_left
   . simp-implicitDefEqProofs (disch:=omega) only[go_sem]
     exact dC ao rfl ⟨rfl,rfl,last fun e=>bU (congrArg (·.1) e)⟩
   simp-implicitDefEqProofs (disch:=omega) only[go_sem];refine a5 (fun b4=>?_) (fun b4=>?_);rotate_left
   . simp-implicitDefEqProofs (disch:=omega) only[go_sem]
     exact dC ao rfl ⟨rfl,rfl,last fun e=>b4 (congrArg (·.2.1) e)⟩
   simp-implicitDefEqProofs (disch:=omega) only[go_sem];refine a5 (fun cG=>?_) (fun cG=>?_);rotate_left
   . simp-implicitDefEqProofs (disch:=omega) only[go_sem]
     exact dC ao rfl ⟨rfl,rfl,last fun e=>cG (congrArg (·.2.2) e)⟩
   simp-implicitDefEqProofs (disch:=omega) only[go_sem];exact fy.err _ (by omega)
 simp-implicitDefEqProofs (disch:=omega) only[go_sem];exact fy.err _ (by omega)
end Go.aQ.C
namespace Go.aQ.C
open Go.aQ
def pG(ls:List dA)(x y:Int):Prop:=∃l∈ls,l.stay=true/\l.src=x/\l.dst=y
def ma(ls:List dA):Int->Int->Prop:=Relation.TransGen (pG ls)
def dA.key(l:dA):Int×Int×Int×Int:=(l.src,l.hY,l.dst,l.j7)
structure OW(n:Net)(i:Nat)(l:dA):Prop where
 src:0<=l.src/\l.src<n.runs.length
 dst:0<=l.dst/\l.dst<n.runs.length
 ne:l.src≠l.dst
 calls:∀a b,n.runs[l.src.toNat]? =some a->n.runs[l.dst.toNat]? =some b->(0<=l.hY/\l.hY<a.calls.length)/\(0<=l.j7/\l.j7<b.calls.length)/\
  (∀c d,a.calls[l.hY.toNat]? =some c->b.calls[l.j7.toNat]? =some d->c.stop=d.stop)/\(l.stay=true->l.hY=a.calls.length -1/\l.j7=0)
 uniq:l.stay=true->∀(k:Nat)(o:dA),k<i->n.b9[k]? =some o->o.stay=true->o.src≠l.src/\o.dst≠l.dst
 free:l.stay=true->¬ma (n.b9.take i) l.dst l.src
 key:∀(k:Nat)(o:dA),k<i->n.b9[k]? =some o->o.key≠l.key
def uF(n:Net)(i:Nat):Prop:=∀l,n.b9[i]? =some l->OW n i l
def yM(n:Net):Prop:=n.b9.length<=1024/\∀i,uF n i
theorem Wv{ls:List dA}{l:dA}{x y:Int}(h:pG (ls++[l]) x y):pG ls x y∨(l.stay=true/\l.src=x/\l.dst=y):=by
 obtain⟨m,hm,U⟩:=h;rcases g_.1 hm with hm|hm
 . exact .inl ⟨m,hm,U⟩
 . rw[ht] at hm;subst hm;exact .inr U
theorem aH7{ls:List dA}{x y z:Int}(h:pG ls x y)(af:ma ls y z):ma ls x z:=by
 induction af with
 |single ay=>exact .tail (.single h) ay
 |tail _ ay bq=>exact .tail bq ay
theorem aH6{ls:List dA}{x z:Int}(h:ma ls x z):∃y,pG ls x y/\(y=z∨ma ls y z):=by
 induction h with
 |single ay=>exact⟨_,ay,.inl rfl⟩
 |tail _ ay bq=>
  obtain⟨y,be,bv⟩:=bq;refine⟨y,be,.inr ?_⟩;rcases bv with rfl|bv
  . exact .single ay
  . exact .tail bv ay
def yK(ls:List dA)(d:Int->Nat):Prop:=∀x y,pG ls x y->d y<d x
open Classical in
theorem Fh(n:Net):∀i,i<=n.b9.length->(∀k,k<i->uF n k)->∃d,yK (n.b9.take i) d
 |0,_,_=>⟨fun _=>0,fun x y ⟨l,ag,_⟩=>by simp at ag⟩
 |i+1,hi,h=>by
  obtain⟨d,aw⟩:=Fh n i (by omega) fun k ao=>h k (by omega);obtain⟨l,ag⟩:∃l,n.b9[i]? =some l:=⟨n.b9[i],by simp⟩;have aT:n.b9.take (i+1)=n.b9.take i++[l]:=by rw[hR,ag];rfl
  rw[aT];have gT:=h i (by omega) l ag;by_cases ak:l.stay=true
  . refine⟨fun x=>d x+if x=l.src∨ma (n.b9.take i) x l.src then d l.dst+1 else 0,fun x y ka=>?_⟩
    simp only;rcases Wv ka with ka|⟨_,rfl,rfl⟩
    . have U:=aw x y ka
      by_cases aD:y=l.src∨ma (n.b9.take i) y l.src
      . have ab:x=l.src∨ma (n.b9.take i) x l.src:=.inr (by
         rcases aD with rfl|aD
         . exact .single ka
         . exact aH7 ka aD)
        rw[if_pos aD,if_pos ab];omega
      . rw[if_neg aD]
        omega
    . have aD:¬(l.dst=l.src∨ma (n.b9.take i) l.dst l.src):=fun e=>by
       rcases e with e|e
       . exact gT.ne e.symm
       . exact gT.free ak e
      rw[if_neg aD,if_pos (.inl rfl)];omega
  . exact⟨d,fun x y ka=>by
     rcases Wv ka with ka|⟨U,_⟩
     . exact aw x y ka
     . exact absurd U ak⟩
theorem Fe{α:Type}{p q:α->Bool}{a:α}:∀(l:List α),(∀x∈l,p x=true->q x=true)->a∈l->q a=true->p a=false->l.countP p<l.countP q
 |[],_,h,_,_=>by cases h
 |x::l,pd,h,aG,ax=>by
  have hle:l.countP p<=l.countP q:=List.countP_mono_left fun y aD=>pd y (oG _ aD);rw[List.countP_cons,List.countP_cons];rcases jm.1 h with rfl|h
  . rw[aG,ax];simp;omega
  . have bq:=Fe l (fun y aD=>pd y (oG _ aD)) h aG ax
    have:=pd x (by simp);cases aGC:p x with
    |true=>rw[this aGC];simp;omega
    |false=>simp;omega
theorem aAN{ls:List dA}{d:Int->Nat}(h:yK ls d):∃d2,yK ls d2/\∀x,d2 x<=ls.length:=by
 refine⟨fun x=>ls.countP fun l=>l.stay&&decide (d l.src<=d x),fun x y ka=>?_,fun x=>List.countP_le_length⟩;have U:=h x y ka;obtain⟨l,ag,ak,rfl,rfl⟩:=ka;refine Fe ls (fun m _ hm=>?_) ag ?_ ?_
 . simp only[b_,decide_eq_true_eq] at hm⊢
   exact⟨hm.1,by omega⟩
 . simp[ak]
 . simp;intro _;omega
theorem aMa{n:Net}{i:Nat}(h:∀k,k<i->uF n k){x y z:Int}(U:pG (n.b9.take i) x y)(af:pG (n.b9.take i) x z):y=z:=by
 obtain⟨l,ag,ak,rfl,rfl⟩:=U;obtain⟨m,hm,iz,he,rfl⟩:=af;obtain⟨a,bk⟩:=ij ag;obtain⟨b,aj⟩:=ij hm;have Tb:a<i:=by have:=(bn.1 bk).1;rw[iw] at this;omega
 have G4:b<i:=by have:=(bn.1 aj).1;rw[iw] at this;omega
 rw[hs Tb] at bk;rw[hs G4] at aj;rcases Nat.lt_trichotomy a b with ay|ay|ay
 . exact absurd he.symm ((h b G4 m aj).uniq iz a l ay bk ak).1
 . subst ay;rw[bk] at aj;cases aj;rfl
 . exact absurd he ((h a Tb l bk).uniq ak b m ay aj iz).1
theorem aI9{α:Type}{l:List α}{i k:Nat}{x:α}(ao:k<i)(h:l[k]? =some x):x∈l.take i:=by
 have:(l.take i)[k]? =some x:=by rw[hs ao];exact h
 exact dO this
theorem Ad{α:Type}{l:List α}{i:Nat}{x:α}(h:x∈l.take i):∃k,k<i/\l[k]? =some x:=by
 obtain⟨k,ao⟩:=ij h;have gx:k<i:=by have:=(bn.1 ao).1;rw[iw] at this;omega
 exact⟨k,gx,by rw[hs gx] at ao;exact ao⟩
theorem aKL(n:Net)(i:Nat)(x y:Int)(aK:n.wf)(hi:i<n.b9.length)(ao:∀k,k<i->uF n k)(aD:0<=y):
 bQ av IQ [.agg n.row,.int .i64 i,.int .i64 x,.int .i64 y] (fun v=>∃b,v=.bool b/\(b=false->¬ma (n.b9.take i) x y)):=by
 have hm:maxLen=9223372036854775807:=by rfl
 have o9:=aK.b9.2;obtain⟨h7,CK⟩:=Fh n i (by omega) ao;obtain⟨d,aw,hU⟩:=aAN CK;have CL:∀z,d z<=i:=fun z=>by have:=hU z;rw[iw] at this;omega
 refine bZ aDn (by simp[GB]) ?_;simp-implicitDefEqProofs (disch:=omega) only[go_sem,GB,Net.row];refine gg (i+1) (fun t vs M=>∃z,vs=[.int .i64 i,.int .i64 z,.int .i64 y,.ptr 0 0,.int .i64 t]/\M=[.box n.row]/\(ma (n.b9.take i) x y->ma (n.b9.take i) z y/\d z+t<=i)) ⟨x,rfl,rfl,fun h=>⟨h,CL x⟩⟩ ?_ ?_;rotate_left
 . rintro vs M ⟨z,rfl,rfl,H⟩
   have p4:decide (((i+1:Nat):Int)<=(i:Int))=false:=by simp;omega
   simp-implicitDefEqProofs (disch:=omega) only[go_sem,p4];exact⟨false,rfl,fun _ h=>by have:=(H h).2;omega⟩
 rintro t vs M aT pk ⟨z,rfl,rfl,H⟩;have xF:decide ((t:Int)<=(i:Int))=true:=by simp;omega
 simp-implicitDefEqProofs (disch:=omega) only[go_sem,xF];refine gg i (fun k vs M=>∃w:Int,vs=[.int .i64 i,.int .i64 z,.int .i64 y,.ptr 0 0,.int .i64 t,.int .i64 w,.int .i64 k]/\M=[.box n.row]/\((w=-1/\∀(j:Nat)(l:dA),j<k->n.b9[j]? =some l->l.stay=true->l.src≠z)∨pG (n.b9.take i) z w))
  ⟨-1,rfl,rfl,.inl ⟨rfl,fun j l ap=>absurd ap (fb _)⟩⟩ ?_ ?_
 . rintro k vs M gx fw ⟨w,rfl,rfl,qE⟩
   obtain⟨l,ag⟩:∃l,n.b9[k]? =some l:=⟨n.b9[k],by simp⟩;have last:(l.stay=true->l.src≠z)->(w=-1/\∀(j:Nat)(l:dA),j<k+1->n.b9[j]? =some l->l.stay=true->l.src≠z)∨pG (n.b9.take i) z w:=fun cr=>by
    rcases qE with⟨rfl,qE⟩|qE
    . refine .inl ⟨rfl,fun j m ap gy=>?_⟩
      rcases jn.1 ap with h|h
      . exact qE j m h gy
      . subst h;rw[ag] at gy;cases gy;exact cr
    . exact .inr qE
   simp-implicitDefEqProofs (disch:=omega) only[go_sem,fw,ag,Net.row,dA.row];refine cp (fun aW=>?_) (fun aW=>?_);rotate_left
   . simp-implicitDefEqProofs (disch:=omega) only[go_sem]
     exact dC gx rfl ⟨w,rfl,rfl,last fun e=>by rw[aW] at e;cases e⟩
   simp-implicitDefEqProofs (disch:=omega) only[go_sem,ag,dA.row];refine a5 (fun a9=>?_) (fun a9=>?_);rotate_left
   . simp-implicitDefEqProofs (disch:=omega) only[go_sem]
     exact dC gx rfl ⟨w,rfl,rfl,last fun _=>a9⟩
   simp-implicitDefEqProofs (disch:=omega) only[go_sem,ag,dA.row];exact dC gx rfl ⟨l.dst,rfl,rfl,.inr ⟨l,aI9 gx ag,aW,a9,rfl⟩⟩
 rintro vs M ⟨w,rfl,rfl,qE⟩;simp-implicitDefEqProofs (disch:=omega) only[go_sem,dg];refine a5 (fun aW=>?_) (fun aW=>?_)
 . simp-implicitDefEqProofs (disch:=omega) only[go_sem]
   exact⟨true,rfl,fun h=>by cases h⟩
 simp-implicitDefEqProofs (disch:=omega) only[go_sem];refine dC aT rfl ⟨w,rfl,rfl,fun h=>?_⟩;obtain⟨U,af⟩:=H h;obtain⟨u,hu,ay⟩:=aH6 U;rcases qE with⟨rfl,qE⟩|qE
 . obtain⟨l,ag,ak,aG0,_⟩:=hu
   obtain⟨j,ap,eo⟩:=Ad ag;exact absurd aG0 (qE j l ap eo ak)
 . have:=aMa ao hu qE
   subst this;have be:=aw z u hu;rcases ay with rfl|ay
   . exact absurd rfl aW
   . exact⟨ay,by omega⟩
end Go.aQ.C
namespace Go.aQ.C
open Go.aQ
theorem aKM(n:Net)(i:Nat)(l:dA)(aK:n.wf)(ag:n.b9[i]? =some l)(ao:∀k,k<i->uF n k):bQ av IR [.agg n.row,.int .i64 i] (fy (uF n i)):=by
 have hm:maxLen=9223372036854775807:=by rfl
 have o9:=aK.b9.2;have n8:=aK.runs.2;have kZ:=(bn.1 ag).1;have TJ:=aK.b9.1 l (dO ag);refine bZ aDo (by simp[GC]) ?_;simp-implicitDefEqProofs (disch:=omega) only[go_sem,GC,Net.row,ag,dA.row];first|refine b0 (ge _ _ _) ?_|refine bV (ge _ _ _) ?_
 simp-implicitDefEqProofs (disch:=omega) only[go_sem];refine cp (fun aW=>?_) (fun aW=>?_);rotate_left
 . simp-implicitDefEqProofs (disch:=omega) only[go_sem]
   exact fy.err _ (by omega)
 rw[within_iff] at aW;simp-implicitDefEqProofs (disch:=omega) only[go_sem];first|refine b0 (ge _ _ _) ?_|refine bV (ge _ _ _) ?_
 simp-implicitDefEqProofs (disch:=omega) only[go_sem];refine cp (fun a9=>?_) (fun a9=>?_);rotate_left
 . simp-implicitDefEqProofs (disch:=omega) only[go_sem]
   exact fy.err _ (by omega)
 rw[within_iff] at a9;simp-implicitDefEqProofs (disch:=omega) only[go_sem];refine a5 (fun bN=>?_) (fun bN=>?_)
 . simp-implicitDefEqProofs (disch:=omega) only[go_sem]
   exact fy.err _ (by omega)
 obtain⟨a,bk⟩:∃a,n.runs[l.src.toNat]? =some a:=⟨n.runs[l.src.toNat]'(by omega),by simp⟩;obtain⟨b,aj⟩:∃b,n.runs[l.dst.toNat]? =some b:=⟨n.runs[l.dst.toNat]'(by omega),by simp⟩;have aEs:=(aK.runs.1 a (dO bk)).2.2.2.2.2.2;have si:=(aK.runs.1 b (dO aj)).2.2.2.2.2.2;have Hp:0<=l.src:=aW.1;have CK:0<=l.dst:=a9.1;simp-implicitDefEqProofs (disch:=omega) only[go_sem,bk,aj,bS.row];first|refine b0 (ge _ _ _) ?_|refine bV (ge _ _ _) ?_
 simp-implicitDefEqProofs (disch:=omega) only[go_sem];refine cp (fun c5=>?_) (fun c5=>?_);rotate_left
 . simp-implicitDefEqProofs (disch:=omega) only[go_sem]
   exact fy.err _ (by omega)
 rw[within_iff] at c5;simp-implicitDefEqProofs (disch:=omega) only[go_sem];first|refine b0 (ge _ _ _) ?_|refine bV (ge _ _ _) ?_
 simp-implicitDefEqProofs (disch:=omega) only[go_sem];refine cp (fun er=>?_) (fun er=>?_);rotate_left
 . simp-implicitDefEqProofs (disch:=omega) only[go_sem]
   exact fy.err _ (by omega)
 rw[within_iff] at er;obtain⟨c,ar⟩:∃c,a.calls[l.hY.toNat]? =some c:=⟨a.calls[l.hY.toNat]'(by omega),by simp⟩;obtain⟨e,he⟩:∃e,b.calls[l.j7.toNat]? =some e:=⟨b.calls[l.j7.toNat]'(by omega),by simp⟩;have tx:0<=l.hY:=c5.1;have L8:0<=l.j7:=er.1;simp-implicitDefEqProofs (disch:=omega) only[go_sem,ar,he,cd.row];refine a5 (fun eT=>?_) (fun eT=>?_);rotate_left
 . simp-implicitDefEqProofs (disch:=omega) only[go_sem]
   exact fy.err _ (by omega)
 have Lj:(l.stay=true->l.hY=a.calls.length -1/\l.j7=0)->∀du iM,n.runs[l.src.toNat]? =some du->n.runs[l.dst.toNat]? =some iM->(0<=l.hY/\l.hY<du.calls.length)/\(0<=l.j7/\l.j7<iM.calls.length)/\
  (∀c d,du.calls[l.hY.toNat]? =some c->iM.calls[l.j7.toNat]? =some d->c.stop=d.stop)/\(l.stay=true->l.hY=du.calls.length -1/\l.j7=0):=fun bh du iM S_ mh=>by
  rw[bk] at S_;cases S_;rw[aj] at mh;cases mh;refine⟨⟨by omega,by omega⟩,⟨by omega,by omega⟩,fun c0 hB q6 u5=>?_,bh⟩;rw[ar] at q6;cases q6;rw[he] at u5;cases u5;exact eT
 by_cases bh:l.stay=true->l.hY=a.calls.length -1/\l.j7=0;rotate_left
 . have iy:l.stay=true:=by
    cases h:l.stay with
    |true=>rfl
    |false=>exact absurd (fun e=>by rw[h] at e;cases e) bh
   have aN7:(l.stay=true)=True:=by simp[iy]
   simp-implicitDefEqProofs (disch:=omega) only[go_sem];refine cp (fun _=>?_) (fun h=>?_);rotate_left
   . rw[iy] at h;cases h
   simp-implicitDefEqProofs (disch:=omega) only[go_sem];refine a5 (fun lu=>?_) (fun lu=>?_);rotate_left
   . simp-implicitDefEqProofs (disch:=omega) only[go_sem]
     exact fy.err _ (by omega)
   simp-implicitDefEqProofs (disch:=omega) only[go_sem];refine a5 (fun ts=>?_) (fun ts=>?_)
   . exact absurd (fun _=>⟨lu,ts⟩) bh
   simp-implicitDefEqProofs (disch:=omega) only[go_sem];exact fy.err _ (by omega)
 have Lj:=Lj bh;simp-implicitDefEqProofs (disch:=omega) only[go_sem];refine cp (fun iy=>?_) (fun iy=>?_);rotate_left;simp-implicitDefEqProofs (disch:=omega) only[go_sem];rotate_left;obtain⟨dw,dn⟩:=bh iy;simp-implicitDefEqProofs (disch:=omega) only[go_sem];refine a5 (fun _=>?_) (fun h=>absurd dw h);simp-implicitDefEqProofs (disch:=omega) only[go_sem];refine a5 (fun _=>?_) (fun h=>absurd dn h);simp-implicitDefEqProofs (disch:=omega) only[go_sem];all_goals
  refine gg i (fun k vs M=>vs=[.int .i64 i,.ptr 0 0,.ptr 1 0,.int .i64 k]/\M=[.box n.row,.box l.row]/\(l.stay=true->∀(j:Nat)(o:dA),j<k->n.b9[j]? =some o->o.stay=true->o.src≠l.src/\o.dst≠l.dst)) ⟨rfl,rfl,fun _ j o ap=>absurd ap (fb _)⟩ ?_ ?_
  . rintro k vs M gx fw ⟨rfl,rfl,H⟩
    obtain⟨o,az⟩:∃o,n.b9[k]? =some o:=⟨n.b9[k],by simp⟩;have last:(l.stay=true->o.stay=true->o.src≠l.src/\o.dst≠l.dst)->(l.stay=true->∀(j:Nat)(o:dA),j<k+1->n.b9[j]? =some o->o.stay=true->o.src≠l.src/\o.dst≠l.dst):=fun cr ak j m ap gy=>by
     rcases jn.1 ap with h|h
     . exact H ak j m h gy
     . subst h;rw[az] at gy;cases gy;exact cr ak
    simp-implicitDefEqProofs (disch:=omega) only[go_sem,fw,az,Net.row,dA.row];refine cp (fun bU=>?_) (fun bU=>?_);rotate_left
    . simp-implicitDefEqProofs (disch:=omega) only[go_sem]
      exact dC gx rfl ⟨rfl,rfl,last fun e=>by rw[bU] at e;cases e⟩
    simp-implicitDefEqProofs (disch:=omega) only[go_sem];refine cp (fun b4=>?_) (fun b4=>?_);rotate_left
    . simp-implicitDefEqProofs (disch:=omega) only[go_sem]
      exact dC gx rfl ⟨rfl,rfl,last fun _ e=>by rw[b4] at e;cases e⟩
    simp-implicitDefEqProofs (disch:=omega) only[go_sem];refine a5 (fun cG=>?_) (fun cG=>?_)
    . simp-implicitDefEqProofs (disch:=omega) only[go_sem]
      exact fy.err _ (by omega)
    simp-implicitDefEqProofs (disch:=omega) only[go_sem];refine a5 (fun dl=>?_) (fun dl=>?_)
    . simp-implicitDefEqProofs (disch:=omega) only[go_sem]
      exact fy.err _ (by omega)
    simp-implicitDefEqProofs (disch:=omega) only[go_sem];exact dC gx rfl ⟨rfl,rfl,last fun _ _=>⟨cG,dl⟩⟩
  rintro vs M ⟨rfl,rfl,H⟩;have aBP:(l.stay=true->¬ma (n.b9.take i) l.dst l.src)->(∀(j:Nat)(o:dA),j<i->n.b9[j]? =some o->o.key≠l.key)->uF n i:=fun aC jh l' ei=>by
   rw[ag] at ei;cases ei;exact⟨⟨by omega,by omega⟩,⟨by omega,by omega⟩,bN,Lj,H,aC,jh⟩
  simp-implicitDefEqProofs (disch:=omega) only[go_sem,dg,Net.row,dA.row];refine cp (fun c4=>?_) (fun c4=>?_);rotate_left;simp-implicitDefEqProofs (disch:=omega) only[go_sem];rotate_left;simp-implicitDefEqProofs (disch:=omega) only[go_sem];refine fI (aKL n i l.dst l.src aK kZ ao Hp) ?_;rintro v ⟨Kx,rfl,aj⟩;simp-implicitDefEqProofs (disch:=omega) only[go_sem];refine cp (fun dF=>?_) (fun dF=>?_)
  . simp-implicitDefEqProofs (disch:=omega) only[go_sem]
    exact fy.err _ (by omega)
  have Hc:l.stay=true->¬ma (n.b9.take i) l.dst l.src:=fun _=>aj dF;simp-implicitDefEqProofs (disch:=omega) only[go_sem];rotate_left;have Hc:l.stay=true->¬ma (n.b9.take i) l.dst l.src:=fun e=>by rw[c4] at e;cases e
  rotate_left;all_goals
   refine gg i (fun k vs M=>vs=[.int .i64 i,.ptr 0 0,.ptr 1 0,.int .i64 k]/\M=[.box n.row,.box l.row]/\(∀(j:Nat)(o:dA),j<k->n.b9[j]? =some o->o.key≠l.key)) ⟨rfl,rfl,fun j o ap=>absurd ap (fb _)⟩ ?_ ?_
   . rintro k vs M gx fw ⟨rfl,rfl,H⟩
     obtain⟨o,az⟩:∃o,n.b9[k]? =some o:=⟨n.b9[k],by simp⟩;have last:o.key≠l.key->(∀(j:Nat)(o:dA),j<k+1->n.b9[j]? =some o->o.key≠l.key):=fun cr j m ap gy=>by
      rcases jn.1 ap with h|h
      . exact H j m h gy
      . subst h;rw[az] at gy;cases gy;exact cr
     simp-implicitDefEqProofs (disch:=omega) only[go_sem,fw,az,Net.row,dA.row];refine a5 (fun bU=>?_) (fun bU=>?_);rotate_left
     . simp-implicitDefEqProofs (disch:=omega) only[go_sem]
       exact dC gx rfl ⟨rfl,rfl,last fun e=>bU (congrArg (·.1) e)⟩
     simp-implicitDefEqProofs (disch:=omega) only[go_sem];refine a5 (fun b4=>?_) (fun b4=>?_);rotate_left
     . simp-implicitDefEqProofs (disch:=omega) only[go_sem]
       exact dC gx rfl ⟨rfl,rfl,last fun e=>b4 (congrArg (·.2.1) e)⟩
     simp-implicitDefEqProofs (disch:=omega) only[go_sem];refine a5 (fun cG=>?_) (fun cG=>?_);rotate_left
     . simp-implicitDefEqProofs (disch:=omega) only[go_sem]
       exact dC gx rfl ⟨rfl,rfl,last fun e=>cG (congrArg (·.2.2.1) e)⟩
     simp-implicitDefEqProofs (disch:=omega) only[go_sem];refine a5 (fun dl=>?_) (fun dl=>?_);rotate_left
     . simp-implicitDefEqProofs (disch:=omega) only[go_sem]
       exact dC gx rfl ⟨rfl,rfl,last fun e=>dl (congrArg (·.2.2.2) e)⟩
     simp-implicitDefEqProofs (disch:=omega) only[go_sem];exact fy.err _ (by omega)
   rintro vs M ⟨rfl,rfl,jh⟩;simp-implicitDefEqProofs (disch:=omega) only[go_sem,dg];exact fy.ok (aBP Hc jh)
end Go.aQ.C
