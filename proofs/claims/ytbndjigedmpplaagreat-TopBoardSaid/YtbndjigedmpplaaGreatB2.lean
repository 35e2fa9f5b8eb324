/- A part of the proof of TopBoard: the abstract machine, the code that the statement reaches, the contracts of its functions. Part 2. The text is made short by a program. -/
import Derived.Test.YtbndjigedmpplaaGreatB1
set_option linter.unusedSimpArgs false
set_option linter.unusedVariables false
set_option linter.unusedSectionVars false
set_option maxHeartbeats 1000000
set_option maxRecDepth 10000
open BitVec renaming ofInt->iD
open Bool renaming and_eq_true->cc,and_self->eQ,false_and->oS,false_eq_true->jh,not_eq_true'->lV
open List renaming getElem?_cons_zero->ji,getElem?_eq_some_iff->bo,getElem?_of_mem->ir,mem_of_getElem?->dQ,mem_range->ka,range->c5,take_add_one->iu,take_length->gB
open Nat renaming beq->ey,eq_of_beq_eq_true->oV,lt_or_ge->mR,lt_succ_iff_lt_or_eq->ju,not_lt_zero->e8
namespace Go.aL
class Zc where
 v:V
 s:aI
class E3 where
 s:aI
 k:aI->Mem->Prop
class K2 where
 H:List (Nat×(Mem->Prop))
 s:aI
 k:aI->Mem->Prop
def OS(b:Bool)(u:Nat)[h:Zc]:V:=bif b then h.v else aX h.s u
theorem aOX(t:Nat)(v:V)(s:aI)(u:Nat):aX ((t,v)::s) u=@OS (t==u) u ⟨v,s⟩:=rfl
theorem aOW(u:Nat)(v:V)(s:aI):@OS true u ⟨v,s⟩=v:=rfl
theorem aOV(u:Nat)(v:V)(s:aI):@OS false u ⟨v,s⟩=aX s u:=rfl
theorem aPj(s:aI)(u:Nat)(x:V):eP s u x=(u,x)::s:=rfl
theorem aPi(s:aI)(u:Nat)(x:V):bA s (some u) x=(u,x)::s:=rfl
theorem aPh(s:aI)(x:V):bA s none x=s:=rfl
theorem aPf(s:aI):g7 s []=[]:=rfl
theorem aPe(s:aI)(t:Nat)(ip:List Nat):g7 s (t::ip)=(t,aX s t)::g7 s ip:=rfl
theorem aEv(s:aI)(t:Nat):aP s (.tmp t)=aX s t:=rfl
theorem aEu(s:aI)(v:V):aP s (.const v)=v:=rfl
theorem aEr(s:aI)(x:aU):eM s (some x)=some (aP s x):=rfl
theorem aEq(s:aI):eM s none=none:=rfl
theorem aEo(s:aI):e_ s []=[]:=rfl
theorem aEn(s:aI)(x:aU)(xs:List aU):e_ s (x::xs)=aP s x::e_ s xs:=rfl
theorem aEt(s:aI):kk s []=[]:=rfl
theorem aEs(s:aI)(a b:Nat)(x:aU)(xs:List (Nat×Nat×aU)):kk s ((a,b,x)::xs)=(a,b,aP s x)::kk s xs:=rfl
def KU(v:V)[A:wD][B:wD]:Prop:=Bl v A.p B.p
theorem YS(t:Bool)(A B:Prop):@KU (.bool t) ⟨A⟩ ⟨B⟩=@qW t ⟨A⟩ ⟨B⟩:=rfl
theorem aQz(P:Program)(c:aU)(a b:a6)(Q:Exit->aI->Mem->Prop)(s:aI)(M:Mem):dn P (.cond c a b) Q s M=@KU (aP s c) ⟨dn P a Q s M⟩ ⟨dn P b Q s M⟩:=by
 simp only[dn,KU,Bl]<;>cases aP s c<;>rfl
def dd(P:Program)(q:Bool)(dst:Option Nat)(op:dM)(bz:Bool)(M:Mem)[h:E3]:Prop:=wpOp P q op dst bz h.s M h.k
def wB(P:Program)(q:Bool)(g:Nat)(w:Bool)(dst:Option Nat)(op:dM)(bz:Bool)(v:V)(M:Mem)[h:E3]:Prop:=
 match v with
 |.bool b=>
  match w with
  |true=>kc b (wpOp P q op dst bz (eP h.s g (.bool true)) M h.k) (h.k (bA (eP h.s g (.bool false)) dst (.tuple [])) M)
  |false=>kc b (h.k (bA (eP h.s g (.bool true)) dst (.tuple [])) M) (wpOp P q op dst bz (eP h.s g (.bool false)) M h.k)
 |.tuple []=>h.k (bA h.s dst (.tuple [])) M
 |_=>False
theorem Y_(P:Program)(q:Bool)(g:Nat)(dst:Option Nat)(op:dM)(bz b:Bool)(M:Mem)(s:aI)(k:aI->Mem->Prop):@wB P q g true dst op bz (.bool b) M ⟨s,k⟩=@qW b ⟨@dd P q dst op bz M ⟨(g,.bool true)::s,k⟩⟩ ⟨k (bA ((g,.bool false)::s) dst (.tuple [])) M⟩:=rfl
theorem Y8(P:Program)(q:Bool)(g:Nat)(dst:Option Nat)(op:dM)(bz b:Bool)(M:Mem)(s:aI)(k:aI->Mem->Prop):@wB P q g false dst op bz (.bool b) M ⟨s,k⟩=@qW b ⟨k (bA ((g,.bool true)::s) dst (.tuple [])) M⟩ ⟨@dd P q dst op bz M ⟨(g,.bool false)::s,k⟩⟩:=rfl
theorem Y9(P:Program)(q:Bool)(g:Nat)(w:Bool)(dst:Option Nat)(op:dM)(bz:Bool)(M:Mem)(s:aI)(k:aI->Mem->Prop):@wB P q g w dst op bz (.tuple []) M ⟨s,k⟩=k (bA s dst (.tuple [])) M:=rfl
def nn(P:Program)(aF:List bw)(M:Mem)[h:E3]:Prop:=wpOps P false aF h.s M h.k
def wH(P:Program)(aF:List bw)(dR:List Bool)(M:Mem)[h:E3]:Prop:=uK P aF dR h.s M h.k
def wz(P:Program)(aF:List bw)(bL:List (Option (List Nat)))(n:Nat)(M:Mem)[h:K2]:Prop:=mm P aF bL n h.H h.s M h.k
theorem aN9(P:Program)(aF:List bw)(live:List Nat)(Q:Exit->aI->Mem->Prop)(s:aI)(M:Mem):dn P (.region aF live) Q s M=@nn P aF M ⟨s,fun aO ah=>Q .normal (g7 aO live) ah⟩:=rfl
theorem aMB(P:Program)(aF:List bw)(dR:List Bool)(live:List Nat)(Q:Exit->aI->Mem->Prop)(s:aI)(M:Mem):dn P (.mixed aF dR live) Q s M=@wH P aF dR M ⟨s,fun aO ah=>Q .normal (g7 aO live) ah⟩:=rfl
theorem aFa(P:Program)(aF:List bw)(bL:List (Option (List Nat)))(live:List Nat)(Q:Exit->aI->Mem->Prop)(s:aI)(M:Mem):dn P (.float aF bL live) Q s M=@wz P aF bL 0 M ⟨[],s,fun aO ah=>Q .normal (g7 aO live) ah⟩:=rfl
theorem aaK(P:Program)(M:Mem)(s:aI)(k:aI->Mem->Prop):@nn P [] M ⟨s,k⟩=k s M:=rfl
theorem aaL(P:Program)(dst:Option Nat)(op:dM)(bz:Bool)(os:List bw)(M:Mem)(s:aI)(k:aI->Mem->Prop):@nn P (⟨dst,op,bz,none⟩::os) M ⟨s,k⟩=@dd P false dst op bz M ⟨s,fun aO ah=>@nn P os ah ⟨aO,k⟩⟩:=rfl
theorem aaJ(P:Program)(dst:Option Nat)(op:dM)(bz:Bool)(g:Nat)(w:Bool)(os:List bw)(M:Mem)(s:aI)(k:aI->Mem->Prop):@nn P (⟨dst,op,bz,some (g,w)⟩::os) M ⟨s,k⟩=@wB P false g w dst op bz (aX s g) M ⟨s,fun aO ah=>@nn P os ah ⟨aO,k⟩⟩:=by
 simp only[nn,wpOps,wB]<;>cases aX s g<;>first|rfl|(cases w<;>rfl)
theorem Zo(P:Program)(dR:List Bool)(M:Mem)(s:aI)(k:aI->Mem->Prop):@wH P [] dR M ⟨s,k⟩=k s M:=rfl
theorem Zp(P:Program)(dst:Option Nat)(op:dM)(bz:Bool)(os:List bw)(q:Bool)(dR:List Bool)(M:Mem)(s:aI)(k:aI->Mem->Prop):@wH P (⟨dst,op,bz,none⟩::os) (q::dR) M ⟨s,k⟩=@dd P q dst op bz M ⟨s,fun aO ah=>@wH P os dR ah ⟨aO,k⟩⟩:=rfl
theorem Zn(P:Program)(dst:Option Nat)(op:dM)(bz:Bool)(g:Nat)(w:Bool)(os:List bw)(q:Bool)(dR:List Bool)(M:Mem)(s:aI)(k:aI->Mem->Prop):@wH P (⟨dst,op,bz,some (g,w)⟩::os) (q::dR) M ⟨s,k⟩=@wB P q g w dst op bz (aX s g) M ⟨s,fun aO ah=>@wH P os dR ah ⟨aO,k⟩⟩:=by
 simp only[wH,uK,hz,wB]<;>cases aX s g<;>first|rfl|(cases w<;>rfl)
theorem Y1(P:Program)(bL:List (Option (List Nat)))(n:Nat)(M:Mem)(H:List (Nat×(Mem->Prop)))(s:aI)(k:aI->Mem->Prop):@wz P [] bL n M ⟨H,s,k⟩=k s M:=rfl
theorem Y2(P:Program)(dst:Option Nat)(op:dM)(bz:Bool)(os:List bw)(bR:List (Option (List Nat)))(n:Nat)(M:Mem)(H:List (Nat×(Mem->Prop)))(s:aI)(k:aI->Mem->Prop):@wz P (⟨dst,op,bz,none⟩::os) (none::bR) n M ⟨H,s,k⟩=
 @dd P true dst op bz M ⟨s,fun aO ah=>@wz P os bR (n+1) ah ⟨(n,go P ⟨dst,op,bz,none⟩ s (p8 aO dst))::H,aO,k⟩⟩:=rfl
theorem Y3(P:Program)(dst:Option Nat)(op:dM)(bz:Bool)(os:List bw)(l:List Nat)(bR:List (Option (List Nat)))(n:Nat)(M:Mem)(H:List (Nat×(Mem->Prop)))(s:aI)(k:aI->Mem->Prop):@wz P (⟨dst,op,bz,none⟩::os) (some l::bR) n M ⟨H,s,k⟩=
 @dd P false dst op bz M ⟨s,fun aO ah=>kP H l ah/\@wz P os bR (n+1) ah ⟨H,aO,k⟩⟩:=rfl
def wF(P:Program)(z:List V)(n c:Nat)(aF:List bw)(bL:List (Option (List Nat)))(q:Nat)(M:Mem)[h:K2]:Prop:=n0 P z n c aF bL q h.H h.s M h.k
def K5(b:Bool)(P:Program)(z:List V)(n c:Nat)(o:bw)(os:List bw)(l:List Nat)(bR:List (Option (List Nat)))(q:Nat)(M:Mem)[h:K2]:Prop:=match b with
 |true=>kP h.H l (M.set n (.box z))/\mm P os bR (q+1) h.H (bA h.s o.dst (.ptr n 0)) (M.set n (.box z)) h.k
 |false=>
  match o.op with
  |.call f args=>KT P f (e_ h.s args) M n (.box z) (fun v ah=>kN h.s o.dst o.bz v (fun aO=>kP h.H l ah/\n0 P z n c os bR (q+1) h.H aO ah h.k))
  |_=>False
theorem Zi(P:Program)(z:List V)(n c:Nat)(dst:Option Nat)(op:dM)(bz:Bool)(os:List bw)(bR:List (Option (List Nat)))(q:Nat)(M:Mem)(H:List (Nat×(Mem->Prop)))(s:aI)(k:aI->Mem->Prop):@wF P z n c (⟨dst,op,bz,none⟩::os) (none::bR) q M ⟨H,s,k⟩=
 @dd P true dst op bz M ⟨s,fun aO ah=>@wF P z n c os bR (q+1) ah ⟨(q,go P ⟨dst,op,bz,none⟩ s (p8 aO dst))::H,aO,k⟩⟩:=rfl
theorem Zj(P:Program)(z:List V)(n c:Nat)(o:bw)(os:List bw)(l:List Nat)(bR:List (Option (List Nat)))(q:Nat)(M:Mem)(H:List (Nat×(Mem->Prop)))(s:aI)(k:aI->Mem->Prop):@wF P z n c (o::os) (some l::bR) q M ⟨H,s,k⟩=@K5 (q==c) P z n c o os l bR q M ⟨H,s,k⟩:=by
 cases h:(q==c) with
 |true=>
  have af:ey q c=true:=by rw[eq_of_beq h];exact Nat.beq_refl c
  simp only[wF,n0,af];rfl
 |false=>
  have af:ey q c=false:=by
   cases aj:ey q c with
   |false=>rfl
   |true=>rw[oV aj,beq_self_eq_true] at h;cases h
  simp only[wF,n0,af];rfl
theorem Zh(P:Program)(z:List V)(n c:Nat)(o:bw)(os:List bw)(l:List Nat)(bR:List (Option (List Nat)))(q:Nat)(M:Mem)(H:List (Nat×(Mem->Prop)))(s:aI)(k:aI->Mem->Prop):@K5 true P z n c o os l bR q M ⟨H,s,k⟩=(kP H l (M.set n (.box z))/\@wz P os bR (q+1) (M.set n (.box z)) ⟨H,bA s o.dst (.ptr n 0),k⟩):=rfl
theorem Zg(P:Program)(z:List V)(n c:Nat)(d:Option Nat)(f:Nat)(args:List aU)(g:Option (Nat×Bool))(os:List bw)(l:List Nat)(bR:List (Option (List Nat)))(q:Nat)(M:Mem)(H:List (Nat×(Mem->Prop)))(s:aI)(k:aI->Mem->Prop):@K5 false P z n c ⟨d,.call f args,false,g⟩ os l bR q M ⟨H,s,k⟩=
 @PF P f (e_ s args) M n z ⟨fun v ah=>kP H l ah/\@wF P z n c os bR (q+1) ah ⟨H,bA s d v,k⟩⟩:=rfl
theorem aNU(H:List (Nat×(Mem->Prop)))(M:Mem):kP H [] M=True:=rfl
theorem aNT(H:List (Nat×(Mem->Prop)))(j:Nat)(Ao:List Nat)(M:Mem):kP H (j::Ao) M=(nL H j M/\kP H Ao M):=rfl
class Zd where
 p:Mem->Prop
 H:List (Nat×(Mem->Prop))
def N5(b:Bool)(j:Nat)(M:Mem)[h:Zd]:Prop:=match b with
 |true=>h.p M
 |false=>nL h.H j M
theorem aLZ(i:Nat)(p:Mem->Prop)(H:List (Nat×(Mem->Prop)))(j:Nat)(M:Mem):nL ((i,p)::H) j M=@N5 (i==j) j M ⟨p,H⟩:=by
 show(match ey i j with|true=>p M|false=>nL H j M)=_;cases h:ey i j with
 |true=>
  have:(i==j)=true:=by rw[oV h];exact beq_self_eq_true j
  rw[this];rfl
 |false=>
  have:(i==j)=false:=beq_false_of_ne (Nat.ne_of_beq_eq_false h);rw[this];rfl
theorem aLY(j:Nat)(M:Mem)(p:Mem->Prop)(H:List (Nat×(Mem->Prop))):@N5 true j M ⟨p,H⟩=p M:=rfl
theorem aLX(j:Nat)(M:Mem)(p:Mem->Prop)(H:List (Nat×(Mem->Prop))):@N5 false j M ⟨p,H⟩=nL H j M:=rfl
theorem aDR(s:aI)(d:Nat):p8 s (some d)=aX s d:=rfl
section
variable(P:Program)(q:Bool)(d:Option Nat)(M:Mem)(s:aI)(k:aI->Mem->Prop)
theorem ZF(f:Nat)(l:List aU):@dd P false d (.call f l) false M ⟨s,k⟩=@qX P f (e_ s l) M ⟨fun v ah=>k (bA s d v) ah⟩:=rfl
theorem ZG(f:Nat)(l:List aU):@dd P false d (.call f l) true M ⟨s,k⟩=@qX P f (e_ s l) M ⟨fun v ah=>@hZ (some v) ⟨fun b=>k (bA s d (.bool b)) ah⟩⟩:=rfl
theorem ZH(f:Nat)(l:List aU):@dd P true d (.call f l) false M ⟨s,k⟩=@yW P f (e_ s l) M ⟨fun v ah=>k (bA s d v) ah⟩:=rfl
theorem ZI(f:Nat)(l:List aU):@dd P true d (.call f l) true M ⟨s,k⟩=@yW P f (e_ s l) M ⟨fun v ah=>@hZ (some v) ⟨fun b=>k (bA s d (.bool b)) ah⟩⟩:=rfl
theorem ZJ(x:aU)(l:List aU):@dd P q d (.fX x l) false M ⟨s,k⟩=@yX P q (aP s x) (e_ s l) M ⟨fun v ah=>k (bA s d v) ah⟩:=rfl
theorem ZK(x:aU)(l:List aU):@dd P q d (.fX x l) true M ⟨s,k⟩=@yX P q (aP s x) (e_ s l) M ⟨fun v ah=>@hZ (some v) ⟨fun b=>k (bA s d (.bool b)) ah⟩⟩:=rfl
theorem aau(x:aU)(b:Bool):@dd P q d (.rW x) b M ⟨s,k⟩=@PS (aP s x) M ⟨fun v ah=>k (bA s d v) ah⟩:=rfl
theorem aax(n b:Bool)(x y:aU):@dd P q d (.oG n x y) b M ⟨s,k⟩=@K_ n (aP s x) (aP s y) M ⟨fun v ah=>k (bA s d v) ah⟩:=rfl
theorem aaq(x:aU):@dd P q d (.nQ x) false M ⟨s,k⟩=@iF (some (aP s x)) ⟨fun v=>k (bA s d v) M⟩:=rfl
theorem aar(x:aU):@dd P q d (.nQ x) true M ⟨s,k⟩=@hZ (some (aP s x)) ⟨fun b=>k (bA s d (.bool b)) M⟩:=rfl
theorem aay(c:aU)(a:aU)(b:aU):@dd P q d (.pick c a b) false M ⟨s,k⟩=@iF (v8 (aP s c) (aP s a) (aP s b)) ⟨fun v=>k (bA s d v) M⟩:=rfl
theorem aaz(c:aU)(a:aU)(b:aU):@dd P q d (.pick c a b) true M ⟨s,k⟩=@hZ (v8 (aP s c) (aP s a) (aP s b)) ⟨fun b=>k (bA s d (.bool b)) M⟩:=rfl
theorem Zy(zero:List V)(d3:List (Nat×Nat×aU)):@dd P q d (.build zero d3) false M ⟨s,k⟩=@iF (wS zero (kk s d3)) ⟨fun v=>k (bA s d v) M⟩:=rfl
theorem Zz(zero:List V)(d3:List (Nat×Nat×aU)):@dd P q d (.build zero d3) true M ⟨s,k⟩=@hZ (wS zero (kk s d3)) ⟨fun b=>k (bA s d (.bool b)) M⟩:=rfl
theorem ZA(zero:List V)(sz:Nat)(len:Nat)(d3:List (Nat×Nat×aU)):@dd P q d (.buildSlice zero sz len d3) false M ⟨s,k⟩=@iF (wR zero sz len (kk s d3)) ⟨fun v=>k (bA s d v) M⟩:=rfl
theorem ZB(zero:List V)(sz:Nat)(len:Nat)(d3:List (Nat×Nat×aU)):@dd P q d (.buildSlice zero sz len d3) true M ⟨s,k⟩=@hZ (wR zero sz len (kk s d3)) ⟨fun b=>k (bA s d (.bool b)) M⟩:=rfl
theorem aac(n:Nat)(bZ:Bool)(a:aU):@dd P q d (.load n bZ a) false M ⟨s,k⟩=@iF (g4 n bZ (aP s a) M) ⟨fun v=>k (bA s d v) M⟩:=rfl
theorem aad(n:Nat)(bZ:Bool)(a:aU):@dd P q d (.load n bZ a) true M ⟨s,k⟩=@hZ (g4 n bZ (aP s a) M) ⟨fun b=>k (bA s d (.bool b)) M⟩:=rfl
theorem aav(x:aU):@dd P q d (.nilCheck x) false M ⟨s,k⟩=@iF (nS (aP s x)) ⟨fun v=>k (bA s d v) M⟩:=rfl
theorem aaw(x:aU):@dd P q d (.nilCheck x) true M ⟨s,k⟩=@hZ (nS (aP s x)) ⟨fun b=>k (bA s d (.bool b)) M⟩:=rfl
theorem Zv(op:BinOp)(kC:iU)(x:aU)(y:aU):@dd P q d (.bin op kC x y) false M ⟨s,k⟩=@iF (dN op kC (aP s x) (aP s y)) ⟨fun v=>k (bA s d v) M⟩:=rfl
theorem Zw(op:BinOp)(kC:iU)(x:aU)(y:aU):@dd P q d (.bin op kC x y) true M ⟨s,k⟩=@hZ (dN op kC (aP s x) (aP s y)) ⟨fun b=>k (bA s d (.bool b)) M⟩:=rfl
theorem aaH(op:UnOp)(x:aU):@dd P q d (.un op x) false M ⟨s,k⟩=@iF (wn op (aP s x)) ⟨fun v=>k (bA s d v) M⟩:=rfl
theorem aaI(op:UnOp)(x:aU):@dd P q d (.un op x) true M ⟨s,k⟩=@hZ (wn op (aP s x)) ⟨fun b=>k (bA s d (.bool b)) M⟩:=rfl
theorem ZL(j3:IntKind)(x:aU):@dd P q d (.conv j3 x) false M ⟨s,k⟩=@iF (u3 j3 (aP s x)) ⟨fun v=>k (bA s d v) M⟩:=rfl
theorem ZM(j3:IntKind)(x:aU):@dd P q d (.conv j3 x) true M ⟨s,k⟩=@hZ (u3 j3 (aP s x)) ⟨fun b=>k (bA s d (.bool b)) M⟩:=rfl
theorem ZN(x:aU):@dd P q d (.tv x) false M ⟨s,k⟩=@iF (zh (aP s x)) ⟨fun v=>k (bA s d v) M⟩:=rfl
theorem ZO(x:aU):@dd P q d (.tv x) true M ⟨s,k⟩=@hZ (zh (aP s x)) ⟨fun b=>k (bA s d (.bool b)) M⟩:=rfl
theorem ZD(x:aU):@dd P q d (.rh x) false M ⟨s,k⟩=@iF (su (aP s x) M) ⟨fun v=>k (bA s d v) M⟩:=rfl
theorem ZE(x:aU):@dd P q d (.rh x) true M ⟨s,k⟩=@hZ (su (aP s x) M) ⟨fun b=>k (bA s d (.bool b)) M⟩:=rfl
theorem aao(f:Nat)(c3:List aU):@dd P q d (.lO f c3) false M ⟨s,k⟩=@iF (some (yi f (e_ s c3))) ⟨fun v=>k (bA s d v) M⟩:=rfl
theorem aap(f:Nat)(c3:List aU):@dd P q d (.lO f c3) true M ⟨s,k⟩=@hZ (some (yi f (e_ s c3))) ⟨fun b=>k (bA s d (.bool b)) M⟩:=rfl
theorem aaB(sz:Nat)(x:aU)(lo:Option aU)(hi:Option aU)(mx:Option aU):@dd P q d (.slice sz x lo hi mx) false M ⟨s,k⟩=@iF (hf sz (aP s x) (eM s lo) (eM s hi) (eM s mx) M) ⟨fun v=>k (bA s d v) M⟩:=rfl
theorem aaC(sz:Nat)(x:aU)(lo:Option aU)(hi:Option aU)(mx:Option aU):@dd P q d (.slice sz x lo hi mx) true M ⟨s,k⟩=@hZ (hf sz (aP s x) (eM s lo) (eM s hi) (eM s mx) M) ⟨fun b=>k (bA s d (.bool b)) M⟩:=rfl
theorem aaE(x:aU)(lo:Option aU)(hi:Option aU):@dd P q d (.uG x lo hi) false M ⟨s,k⟩=@iF (AP (aP s x) (eM s lo) (eM s hi)) ⟨fun v=>k (bA s d v) M⟩:=rfl
theorem aaF(x:aU)(lo:Option aU)(hi:Option aU):@dd P q d (.uG x lo hi) true M ⟨s,k⟩=@hZ (AP (aP s x) (eM s lo) (eM s hi)) ⟨fun b=>k (bA s d (.bool b)) M⟩:=rfl
theorem ZV(off:Nat)(x:aU):@dd P q d (.fieldAddr off x) false M ⟨s,k⟩=@iF (kL off (aP s x)) ⟨fun v=>k (bA s d v) M⟩:=rfl
theorem ZW(off:Nat)(x:aU):@dd P q d (.fieldAddr off x) true M ⟨s,k⟩=@hZ (kL off (aP s x)) ⟨fun b=>k (bA s d (.bool b)) M⟩:=rfl
theorem ZU(off:Nat)(n:Nat)(bZ:Bool)(x:aU):@dd P q d (.field off n bZ x) false M ⟨s,k⟩=@iF (xd off n bZ (aP s x)) ⟨fun v=>k (bA s d v) M⟩:=rfl
theorem ZX(off:Nat)(n:Nat)(bZ:Bool)(x:aU):@dd P q d (.field off n bZ x) true M ⟨s,k⟩=@hZ (xd off n bZ (aP s x)) ⟨fun b=>k (bA s d (.bool b)) M⟩:=rfl
theorem Z0(len:Nat)(sz:Nat)(x:aU)(i:aU):@dd P q d (.gy len sz x i) false M ⟨s,k⟩=@iF (pC len sz (aP s x) (aP s i)) ⟨fun v=>k (bA s d v) M⟩:=rfl
theorem Z1(len:Nat)(sz:Nat)(x:aU)(i:aU):@dd P q d (.gy len sz x i) true M ⟨s,k⟩=@hZ (pC len sz (aP s x) (aP s i)) ⟨fun b=>k (bA s d (.bool b)) M⟩:=rfl
theorem Z2(sz:Nat)(x:aU)(i:aU):@dd P q d (.mH sz x i) false M ⟨s,k⟩=@iF (iz sz (aP s x) (aP s i) M) ⟨fun v=>k (bA s d v) M⟩:=rfl
theorem Z3(sz:Nat)(x:aU)(i:aU):@dd P q d (.mH sz x i) true M ⟨s,k⟩=@hZ (iz sz (aP s x) (aP s i) M) ⟨fun b=>k (bA s d (.bool b)) M⟩:=rfl
theorem Z4(x:aU)(i:aU):@dd P q d (.pD x i) false M ⟨s,k⟩=@iF (vU (aP s x) (aP s i)) ⟨fun v=>k (bA s d v) M⟩:=rfl
theorem Z5(x:aU)(i:aU):@dd P q d (.pD x i) true M ⟨s,k⟩=@hZ (vU (aP s x) (aP s i)) ⟨fun b=>k (bA s d (.bool b)) M⟩:=rfl
theorem ZY(len:Nat)(sz:Nat)(bZ:Bool)(x:aU)(i:aU):@dd P q d (.uf len sz bZ x i) false M ⟨s,k⟩=@iF (An len sz bZ (aP s x) (aP s i)) ⟨fun v=>k (bA s d v) M⟩:=rfl
theorem ZZ(len:Nat)(sz:Nat)(bZ:Bool)(x:aU)(i:aU):@dd P q d (.uf len sz bZ x i) true M ⟨s,k⟩=@hZ (An len sz bZ (aP s x) (aP s i)) ⟨fun b=>k (bA s d (.bool b)) M⟩:=rfl
theorem Z9(x:aU):@dd P q d (.sT x) false M ⟨s,k⟩=@iF (iA (aP s x) M) ⟨fun v=>k (bA s d v) M⟩:=rfl
theorem Z_(x:aU):@dd P q d (.sT x) true M ⟨s,k⟩=@hZ (iA (aP s x) M) ⟨fun b=>k (bA s d (.bool b)) M⟩:=rfl
theorem aaa(x:aU):@dd P q d (.nJ x) false M ⟨s,k⟩=@iF (x5 (aP s x)) ⟨fun v=>k (bA s d v) M⟩:=rfl
theorem aab(x:aU):@dd P q d (.nJ x) true M ⟨s,k⟩=@hZ (x5 (aP s x)) ⟨fun b=>k (bA s d (.bool b)) M⟩:=rfl
theorem Z6(n:Nat):@dd P q d (.uj n) false M ⟨s,k⟩=@iF (some (.int .i64 n)) ⟨fun v=>k (bA s d v) M⟩:=rfl
theorem Z7(n:Nat):@dd P q d (.uj n) true M ⟨s,k⟩=@hZ (some (.int .i64 n)) ⟨fun b=>k (bA s d (.bool b)) M⟩:=rfl
theorem aam(mx:Bool)(x:aU)(y:aU):@dd P q d (.nP mx x y) false M ⟨s,k⟩=@iF (sU mx (aP s x) (aP s y)) ⟨fun v=>k (bA s d v) M⟩:=rfl
theorem aan(mx:Bool)(x:aU)(y:aU):@dd P q d (.nP mx x y) true M ⟨s,k⟩=@hZ (sU mx (aP s x) (aP s y)) ⟨fun b=>k (bA s d (.bool b)) M⟩:=rfl
theorem ZS(x:aU)(i:Nat):@dd P q d (.extract x i) false M ⟨s,k⟩=@iF (xa (aP s x) i) ⟨fun v=>k (bA s d v) M⟩:=rfl
theorem ZT(x:aU)(i:Nat):@dd P q d (.extract x i) true M ⟨s,k⟩=@hZ (xa (aP s x) i) ⟨fun b=>k (bA s d (.bool b)) M⟩:=rfl
theorem aaf(c:fv)(zero:List V)(bZ:Bool)(ok:Bool)(m:aU)(j3:aU):@dd P q d (.lookup c zero bZ ok m j3) false M ⟨s,k⟩=@iF (oA c zero bZ ok (aP s m) (aP s j3) M) ⟨fun v=>k (bA s d v) M⟩:=rfl
theorem aag(c:fv)(zero:List V)(bZ:Bool)(ok:Bool)(m:aU)(j3:aU):@dd P q d (.lookup c zero bZ ok m j3) true M ⟨s,k⟩=@hZ (oA c zero bZ ok (aP s m) (aP s j3) M) ⟨fun b=>k (bA s d (.bool b)) M⟩:=rfl
theorem aat(bz:Bool)(sz:Nat):@dd P q d (.pI sz) bz M ⟨s,k⟩=@kw (AC sz M) ⟨fun v ah=>k (bA s d v) ah⟩:=rfl
theorem Zt(bz:Bool)(zero:List V):@dd P q d (.alloc zero) bz M ⟨s,k⟩=@kw (Fj zero M) ⟨fun v ah=>k (bA s d v) ah⟩:=rfl
theorem Zx(bz:Bool)(n:Nat)(x:aU):@dd P q d (.box n x) bz M ⟨s,k⟩=@kw (Bi n (aP s x) M) ⟨fun v ah=>k (bA s d v) ah⟩:=rfl
theorem aaG(bz:Bool)(n:Nat)(a:aU)(x:aU):@dd P q d (.store n a x) bz M ⟨s,k⟩=@kw (Kx n (aP s a) (aP s x) M) ⟨fun v ah=>k (bA s d v) ah⟩:=rfl
theorem aai(bz:Bool)(zero:List V)(sz:Nat)(bytes:Nat)(l:aU)(c:aU):@dd P q d (.makeSlice zero sz bytes l c) bz M ⟨s,k⟩=@kw (m8 zero sz bytes (aP s l) (aP s c) M) ⟨fun v ah=>k (bA s d v) ah⟩:=rfl
theorem ZC(bz:Bool)(zero:List V)(len:Nat)(d3:List (Nat×Nat×aU)):@dd P q d (.rf zero len d3) bz M ⟨s,k⟩=@kw (wT zero len (kk s d3) M) ⟨fun v ah=>k (bA s d v) ah⟩:=rfl
theorem aaj(bz:Bool)(zero:V)(bytes:Nat)(l:aU)(c:aU):@dd P q d (.v3 zero bytes l c) bz M ⟨s,k⟩=@kw (JV zero bytes (aP s l) (aP s c) M) ⟨fun v ah=>k (bA s d v) ah⟩:=rfl
theorem Zu(bz:Bool)(imm:Bool)(sz:Nat)(bytes:Nat)(a:aU)(x:aU):@dd P q d (.append imm sz bytes a x) bz M ⟨s,k⟩=@kw (dX imm sz bytes (aP s a) (aP s x) M) ⟨fun v ah=>k (bA s d v) ah⟩:=rfl
theorem aah(bz:Bool)(r:Option aU):@dd P q d (.makeMap r) bz M ⟨s,k⟩=@kw (yc (eM s r) M) ⟨fun v ah=>k (bA s d v) ah⟩:=rfl
theorem aal(bz:Bool)(c:fv)(m:aU)(j3:aU)(x:aU):@dd P q d (.mapUpdate c m j3 x) bz M ⟨s,k⟩=@kw (Av c (aP s m) (aP s j3) (aP s x) M) ⟨fun v ah=>k (bA s d v) ah⟩:=rfl
theorem aak(bz:Bool)(c:fv)(z:V)(m:aU)(j3:aU):@dd P q d (.mapEntry c z m j3) bz M ⟨s,k⟩=@kw (ul c z (aP s m) (aP s j3) M) ⟨fun v ah=>k (bA s d v) ah⟩:=rfl
theorem ZR(bz:Bool)(m:aU)(st:aU)(x:aU):@dd P q d (.entryStore m st x) bz M ⟨s,k⟩=@kw (w2 (aP s m) (aP s st) (aP s x) M) ⟨fun v ah=>k (bA s d v) ah⟩:=rfl
theorem ZP(bz:Bool)(sz:Nat)(RV:aU)(x:aU):@dd P q d (.copy sz RV x) bz M ⟨s,k⟩=@kw (u4 sz (aP s RV) (aP s x) M) ⟨fun v ah=>k (bA s d v) ah⟩:=rfl
theorem aae(bz:Bool)(x:aU):@dd P q d (.um x) bz M ⟨s,k⟩=@kw (Ar (aP s x) M) ⟨fun v ah=>k (bA s d v) ah⟩:=rfl
theorem aas(bz:Bool)(x:aU):@dd P q d (.rV x) bz M ⟨s,k⟩=@kw (oC (aP s x) M) ⟨fun v ah=>k (bA s d v) ah⟩:=rfl
theorem aaD(bz:Bool)(sz:Nat)(x:aU)(h:aU)(m:aU):@dd P q d (.uF sz x h m) bz M ⟨s,k⟩=@kw (yz sz (aP s x) (aP s h) (aP s m) M) ⟨fun v ah=>k (bA s d v) ah⟩:=rfl
theorem aaA(bz:Bool)(x:aU):@dd P q d (.ux x) bz M ⟨s,k⟩=@kw (EG (aP s x) M) ⟨fun v ah=>k (bA s d v) ah⟩:=rfl
theorem ZQ(bz:Bool)(x:aU):@dd P q d (.tx x) bz M ⟨s,k⟩=@kw (zm (aP s x) M) ⟨fun v ah=>k (bA s d v) ah⟩:=rfl
theorem Z8(bz:Bool)(x:aU):@dd P q d (.uk x) bz M ⟨s,k⟩=@kw (Ej (aP s x) M) ⟨fun v ah=>k (bA s d v) ah⟩:=rfl
end
section
variable(P:Program)(d:Option Nat)(b:Bool)(g:Option (Nat×Bool))(s:aI)(v:V)(M:Mem)
theorem abs(f:Nat)(l:List aU):go P ⟨d,.call f l,b,g⟩ s v M=PD P f (e_ s l) b v M:=rfl
theorem abJ(x:aU):go P ⟨d,.nQ x,b,g⟩ s v M=(some (aP s x)=some v):=rfl
theorem abL(c:aU)(a:aU)(Lq:aU):go P ⟨d,.pick c a Lq,b,g⟩ s v M=(v8 (aP s c) (aP s a) (aP s Lq)=some v):=rfl
theorem abp(zero:List V)(d3:List (Nat×Nat×aU)):go P ⟨d,.build zero d3,b,g⟩ s v M=(wS zero (kk s d3)=some v):=rfl
theorem abq(zero:List V)(sz:Nat)(len:Nat)(d3:List (Nat×Nat×aU)):go P ⟨d,.buildSlice zero sz len d3,b,g⟩ s v M=(wR zero sz len (kk s d3)=some v):=rfl
theorem abF(n:Nat)(bZ:Bool)(a:aU):go P ⟨d,.load n bZ a,b,g⟩ s v M=(g4 n bZ (aP s a) M=some v):=rfl
theorem abK(x:aU):go P ⟨d,.nilCheck x,b,g⟩ s v M=(nS (aP s x)=some v):=rfl
theorem abo(op:BinOp)(kC:iU)(x:aU)(y:aU):go P ⟨d,.bin op kC x y,b,g⟩ s v M=(dN op kC (aP s x) (aP s y)=some v):=rfl
theorem abO(op:UnOp)(x:aU):go P ⟨d,.un op x,b,g⟩ s v M=(wn op (aP s x)=some v):=rfl
theorem abt(j3:IntKind)(x:aU):go P ⟨d,.conv j3 x,b,g⟩ s v M=(u3 j3 (aP s x)=some v):=rfl
theorem abu(x:aU):go P ⟨d,.tv x,b,g⟩ s v M=(zh (aP s x)=some v):=rfl
theorem abr(x:aU):go P ⟨d,.rh x,b,g⟩ s v M=(su (aP s x) M=some v):=rfl
theorem abI(f:Nat)(c3:List aU):go P ⟨d,.lO f c3,b,g⟩ s v M=(some (yi f (e_ s c3))=some v):=rfl
theorem abM(sz:Nat)(x:aU)(lo:Option aU)(hi:Option aU)(mx:Option aU):go P ⟨d,.slice sz x lo hi mx,b,g⟩ s v M=(hf sz (aP s x) (eM s lo) (eM s hi) (eM s mx) M=some v):=rfl
theorem abN(x:aU)(lo:Option aU)(hi:Option aU):go P ⟨d,.uG x lo hi,b,g⟩ s v M=(AP (aP s x) (eM s lo) (eM s hi)=some v):=rfl
theorem abx(off:Nat)(x:aU):go P ⟨d,.fieldAddr off x,b,g⟩ s v M=(kL off (aP s x)=some v):=rfl
theorem abw(off:Nat)(n:Nat)(bZ:Bool)(x:aU):go P ⟨d,.field off n bZ x,b,g⟩ s v M=(xd off n bZ (aP s x)=some v):=rfl
theorem abz(len:Nat)(sz:Nat)(x:aU)(i:aU):go P ⟨d,.gy len sz x i,b,g⟩ s v M=(pC len sz (aP s x) (aP s i)=some v):=rfl
theorem abA(sz:Nat)(x:aU)(i:aU):go P ⟨d,.mH sz x i,b,g⟩ s v M=(iz sz (aP s x) (aP s i) M=some v):=rfl
theorem abB(x:aU)(i:aU):go P ⟨d,.pD x i,b,g⟩ s v M=(vU (aP s x) (aP s i)=some v):=rfl
theorem aby(len:Nat)(sz:Nat)(bZ:Bool)(x:aU)(i:aU):go P ⟨d,.uf len sz bZ x i,b,g⟩ s v M=(An len sz bZ (aP s x) (aP s i)=some v):=rfl
theorem abD(x:aU):go P ⟨d,.sT x,b,g⟩ s v M=(iA (aP s x) M=some v):=rfl
theorem abE(x:aU):go P ⟨d,.nJ x,b,g⟩ s v M=(x5 (aP s x)=some v):=rfl
theorem abC(n:Nat):go P ⟨d,.uj n,b,g⟩ s v M=(some (.int .i64 n)=some v):=rfl
theorem abH(mx:Bool)(x:aU)(y:aU):go P ⟨d,.nP mx x y,b,g⟩ s v M=(sU mx (aP s x) (aP s y)=some v):=rfl
theorem abv(x:aU)(i:Nat):go P ⟨d,.extract x i,b,g⟩ s v M=(xa (aP s x) i=some v):=rfl
theorem abG(c:fv)(zero:List V)(bZ:Bool)(ok:Bool)(m:aU)(j3:aU):go P ⟨d,.lookup c zero bZ ok m j3,b,g⟩ s v M=(oA c zero bZ ok (aP s m) (aP s j3) M=some v):=rfl
end
attribute [go_sem↓high] aOX aQz aN9 aMB aFa aaK aaL aaJ Zo Zp Zn Y1 Y2 Y3 ZF ZG ZH ZI ZJ ZK aau aax aaq aar aay aaz Zy Zz ZA ZB aac aad aav aaw Zv Zw aaH aaI ZL ZM ZN ZO ZD ZE aao aap aaB aaC aaE aaF ZV ZW ZU ZX Z0 Z1 Z2 Z3 Z4 Z5 ZY ZZ Z9 Z_ aaa aab Z6 Z7 aam aan ZS ZT aaf aag aat Zt Zx aaG aai ZC aaj Zu aah aal aak ZR ZP aae aas aaD aaA ZQ Z8 aPf aPe aPj aPi aPh aEv aEu aEr aEq aEo aEn aEt aEs Zi Zj aNU aNT aLZ aDR abs abJ abL abp abq abF abK abo abO abt abu abr abI abM abN abx abw abz abA abB aby abD abE abC abH abv abG
attribute [go_sem] Nat.reduceAdd Nat.reduceMul Nat.reduceSub Nat.reduceBEq Nat.reduceLeDiff Nat.reduceLT
attribute [go_sem] Zh Zg aLY aLX YS Y_ Y8 Y9 aOW aOV
end Go.aL
namespace Go.aL
abbrev ae:V:=.int .i64 0
abbrev b3:V:=.bool false
abbrev c1:V:=.slice [] .nil
abbrev ab(n:Nat):aU:=.tmp n
abbrev bX(n:Int):aU:=.const (.int .i64 n)
abbrev fU:aU:=.const (.bool true)
abbrev cU:aU:=.const (.bool false)
abbrev fu:aU:=.const (.slice [] .nil)
abbrev U:Bool:=true
abbrev ff:Bool:=false
abbrev a0(d:Nat)(o:dM):bw:=⟨some d,o,false,none⟩
abbrev d8(d:Nat)(o:dM):bw:=⟨some d,o,true,none⟩
abbrev lP(o:dM):bw:=⟨none,o,false,none⟩
abbrev ax(n:Nat)(o:bw):bw:=⟨o.dst,o.op,o.bz,some (n,false)⟩
abbrev av(n:Nat)(o:bw):bw:=⟨o.dst,o.op,o.bz,some (n,true)⟩
abbrev I(d a:Nat):bw:=⟨some d,.nQ (.tmp a),false,none⟩
abbrev aN(d a:Nat):bw:=⟨some d,.nQ (.tmp a),true,none⟩
abbrev aQ(d:Nat)(n:Int):bw:=⟨some d,.nQ (.const (.int .i64 n)),false,none⟩
abbrev d9(d:Nat)(x:aU):bw:=⟨some d,.nQ x,false,none⟩
abbrev cl(d:Nat)(x:aU):bw:=⟨some d,.nQ x,true,none⟩
abbrev ai(d f a:Nat):bw:=⟨some d,.fieldAddr f (.tmp a),false,none⟩
abbrev am(d a:Nat):bw:=⟨some d,.load 1 false (.tmp a),false,none⟩
abbrev eJ(d a:Nat):bw:=⟨some d,.load 1 false (.tmp a),true,none⟩
abbrev aY(d n a:Nat):bw:=⟨some d,.load n true (.tmp a),false,none⟩
abbrev bi(d z a i:Nat):bw:=⟨some d,.mH z (.tmp a) (.tmp i),false,none⟩
abbrev b0(d:Nat)(o:BinOp)(a b:Nat):bw:=⟨some d,.bin o .none (.tmp a) (.tmp b),false,none⟩
abbrev bv(d:Nat)(o:BinOp)(a b:Nat):bw:=⟨some d,.bin o .none (.tmp a) (.tmp b),true,none⟩
abbrev be(d:Nat)(o:BinOp)(a:Nat)(n:Int):bw:=⟨some d,.bin o .none (.tmp a) (.const (.int .i64 n)),false,none⟩
abbrev bD(d:Nat)(o:BinOp)(a:Nat)(n:Int):bw:=⟨some d,.bin o .none (.tmp a) (.const (.int .i64 n)),true,none⟩
abbrev bF(d a:Nat):bw:=⟨some d,.sT (.tmp a),false,none⟩
abbrev b2(d a:Nat):bw:=⟨some d,.nilCheck (.tmp a),false,none⟩
abbrev cu(d n a:Nat):bw:=⟨some d,.box n (.tmp a),false,none⟩
abbrev cM(d a:Nat):bw:=⟨some d,.un .not (.tmp a),true,none⟩
abbrev c_(d a i:Nat):bw:=⟨some d,.extract (.tmp a) i,false,none⟩
abbrev pJ(d a i:Nat):bw:=⟨some d,.extract (.tmp a) i,true,none⟩
abbrev cC(d a b:Nat):bw:=⟨some d,.pick (.tmp a) (.const (.bool true)) (.tmp b),true,none⟩
abbrev cG(d a b:Nat):bw:=⟨some d,.pick (.tmp a) (.tmp b) (.const (.bool false)),true,none⟩
abbrev cy(d:Nat)(z:List V):bw:=⟨some d,.alloc z,false,none⟩
abbrev bt(d f:Nat)(l:List aU):bw:=⟨some d,.call f l,false,none⟩
abbrev cW(d f:Nat)(l:List aU):bw:=⟨some d,.call f l,true,none⟩
abbrev hR(d z b a x:Nat):bw:=⟨some d,.append false z b (.tmp a) (.tmp x),false,none⟩
abbrev br(n a x:Nat):bw:=⟨none,.store n (.tmp a) (.tmp x),false,none⟩
abbrev J(o:List bw)(l:List Nat):a6:=.region o l
abbrev di(o:List bw)(q:List Bool)(l:List Nat):a6:=.mixed o q l
abbrev al(a b:a6):a6:=.seq a b
abbrev cb(fp bW b8:a6):a6:=.seq fp (.seq bW b8)
abbrev cv(fp bW b8 cN:a6):a6:=.seq fp (.seq bW (.seq b8 cN))
abbrev f3(fp bW b8 cN dl:a6):a6:=.seq fp (.seq bW (.seq b8 (.seq cN dl)))
abbrev hM(fp bW b8 cN dl e2:a6):a6:=.seq fp (.seq bW (.seq b8 (.seq cN (.seq dl e2))))
abbrev uh(fp bW b8 cN dl e2 fV:a6):a6:=.seq fp (.seq bW (.seq b8 (.seq cN (.seq dl (.seq e2 fV)))))
abbrev iL(fp bW b8 cN dl e2 fV jx:a6):a6:=.seq fp (.seq bW (.seq b8 (.seq cN (.seq dl (.seq e2 (.seq fV jx))))))
abbrev aH(c:Nat)(a b:a6):a6:=.cond (.tmp c) a b
abbrev bb(i:Nat)(a:a6):a6:=.block i a
abbrev cg(l:List Nat)(a:a6):a6:=.loop l a
abbrev aC:a6:=.skip
abbrev bS(i:Nat):a6:=.exit i
abbrev aR:a6:=.ret
theorem aN8(P:Program)(aF:List bw)(live:List Nat)(x:aU)(a b:a6)(Q:Exit->aI->Mem->Prop)(s:aI)(M:Mem):dn P (.seq (.region aF live) (.cond x a b)) Q s M=@nn P aF M ⟨s,fun aO ah=>dn P (.cond x a b) Q (g7 aO live) ah⟩:=rfl
theorem aLk(P:Program)(e:Nat)(z:List V)(aF:List bw)(bL:List (Option (List Nat)))(live:List Nat)(Q:Exit->aI->Mem->Prop)(s:aI)(M:Mem):dn P (.sE e z aF bL live) Q s M=@wF P z M.length e aF bL 0 (M++[.dead]) ⟨[],s,fun aO ah=>Q .normal (g7 aO live) ah⟩:=rfl
attribute [go_sem↓high] aN8 aLk
def ba(_:Nat)(c:a6):a6:=c
theorem bm(n:Nat)(P:Program)(c:a6)(Q:Exit->aI->Mem->Prop)(s:aI)(M:Mem):dn P (ba n c) Q s M=dn P c Q s M:=rfl
def rF:Nat->Code->a6->List (Nat×List Nat)×List (Nat×List Nat)
 |0,_,_=>([],[])
 |k+1,c,a=>
  match c,a with
  |.region i _ _,.region _ l=>([(i,l)],[])
  |.region i _ _,.mixed _ _ l=>([(i,l)],[])
  |.region i _ _,.float _ _ l=>([(i,l)],[])
  |.region i _ _,.sE _ _ _ _ l=>([(i,l)],[])
  |.seq a b,.seq x y=>let p:=rF k a x;let q:=rF k b y;(p.1++q.1,p.2++q.2)
  |.cond _ a b,.cond _ x y=>let p:=rF k a x;let q:=rF k b y;(p.1++q.1,p.2++q.2)
  |.block _ a,.block _ x=>rF k a x
  |.loop a,.loop l x=>let p:=rF k a x;(p.1,(pd a,l)::p.2)
  |.scope a,.scope m l x y=>
   match findLabel a m with
   |some r=>let p:=rF k a x;let q:=rF k r y;(p.1++q.1,(pd r,l)::(p.2++q.2))
   |none=>([],[])
  |_,_=>([],[])
def bE(P:Program)(f:Nat)(fn:bs)(m:List (Nat×List Nat)):Hints:=
 match P.funcs[f]? with
 |some F=>
  match F.body with
  |some c=>let r:=rF 200 c fn.body;⟨r.1,r.2,m⟩
  |none=>⟨[],[],m⟩
 |none=>⟨[],[],m⟩
end Go.aL
namespace Go.aL
section
variable{β:Type}
def fa(n:Nat)(k:Nat->β):β:=match n with
 |0=>k 0
 |m+1=>k (m+1)
def pa(b:Bool)(k:Bool->β):β:=match b with
 |true=>k true
 |false=>k false
def ro{α:Type}(f:α->(α->β)->β)(o:Option α)(k:Option α->β):β:=match o with
 |none=>k none
 |some x=>f x fun y=>k (some y)
def hG{α:Type}(f:α->(α->β)->β):List α->(List α->β)->β
 |[],k=>k []
 |x::l,k=>f x fun y=>hG f l fun m=>k (y::m)
def dI(x:aU)(k:aU->β):β:=match x with
 |.tmp t=>fa t fun t=>k (.tmp t)
 |.const v=>k (.const v)
def va{α:Type}(x:α)(k:α->β):β:=k x
def BA(x:Nat×Nat×aU)(k:Nat×Nat×aU->β):β:=match x with
 |(a,b,y)=>fa a fun a=>fa b fun b=>dI y fun y=>k (a,b,y)
def L9(x:Nat×Bool)(k:Nat×Bool->β):β:=match x with
 |(a,b)=>fa a fun a=>pa b fun b=>k (a,b)
def L_(o:dM)(k:dM->β):β:=match o with
 |.nQ x=>dI x fun x=>k (.nQ x)
 |.pI n=>fa n fun n=>k (.pI n)
 |.pick c a b=>dI c fun c=>dI a fun a=>dI b fun b=>k (.pick c a b)
 |.alloc z=>hG va z fun z=>k (.alloc z)
 |.box n x=>fa n fun n=>dI x fun x=>k (.box n x)
 |.build z p=>hG va z fun z=>hG BA p fun p=>k (.build z p)
 |.buildSlice z a b p=>hG va z fun z=>fa a fun a=>fa b fun b=>hG BA p fun p=>k (.buildSlice z a b p)
 |.rf z a p=>hG va z fun z=>fa a fun a=>hG BA p fun p=>k (.rf z a p)
 |.load n a x=>fa n fun n=>pa a fun a=>dI x fun x=>k (.load n a x)
 |.store n a x=>fa n fun n=>dI a fun a=>dI x fun x=>k (.store n a x)
 |.nilCheck x=>dI x fun x=>k (.nilCheck x)
 |.bin o e x y=>dI x fun x=>dI y fun y=>k (.bin o e x y)
 |.un o x=>dI x fun x=>k (.un o x)
 |.conv i x=>dI x fun x=>k (.conv i x)
 |.tv x=>dI x fun x=>k (.tv x)
 |.rh x=>dI x fun x=>k (.rh x)
 |.lO f c=>fa f fun f=>hG dI c fun c=>k (.lO f c)
 |.makeSlice z a b l c=>hG va z fun z=>fa a fun a=>fa b fun b=>dI l fun l=>dI c fun c=>k (.makeSlice z a b l c)
 |.v3 z b l c=>fa b fun b=>dI l fun l=>dI c fun c=>k (.v3 z b l c)
 |.slice s x a b c=>fa s fun s=>dI x fun x=>ro dI a fun a=>ro dI b fun b=>ro dI c fun c=>k (.slice s x a b c)
 |.uG x a b=>dI x fun x=>ro dI a fun a=>ro dI b fun b=>k (.uG x a b)
 |.fieldAddr n x=>fa n fun n=>dI x fun x=>k (.fieldAddr n x)
 |.field a b c x=>fa a fun a=>fa b fun b=>pa c fun c=>dI x fun x=>k (.field a b c x)
 |.gy a b x i=>fa a fun a=>fa b fun b=>dI x fun x=>dI i fun i=>k (.gy a b x i)
 |.mH s x i=>fa s fun s=>dI x fun x=>dI i fun i=>k (.mH s x i)
 |.pD x i=>dI x fun x=>dI i fun i=>k (.pD x i)
 |.uf a b g x i=>fa a fun a=>fa b fun b=>pa g fun g=>dI x fun x=>dI i fun i=>k (.uf a b g x i)
 |.sT x=>dI x fun x=>k (.sT x)
 |.nJ x=>dI x fun x=>k (.nJ x)
 |.uj n=>fa n fun n=>k (.uj n)
 |.append i a b s x=>pa i fun i=>fa a fun a=>fa b fun b=>dI s fun s=>dI x fun x=>k (.append i a b s x)
 |.nP m x y=>pa m fun m=>dI x fun x=>dI y fun y=>k (.nP m x y)
 |.extract x i=>dI x fun x=>fa i fun i=>k (.extract x i)
 |.makeMap r=>ro dI r fun r=>k (.makeMap r)
 |.lookup c z a o m x=>hG va z fun z=>pa a fun a=>pa o fun o=>dI m fun m=>dI x fun x=>k (.lookup c z a o m x)
 |.mapUpdate c m x y=>dI m fun m=>dI x fun x=>dI y fun y=>k (.mapUpdate c m x y)
 |.mapEntry c z m x=>dI m fun m=>dI x fun x=>k (.mapEntry c z m x)
 |.entryStore m s x=>dI m fun m=>dI s fun s=>dI x fun x=>k (.entryStore m s x)
 |.copy s d x=>fa s fun s=>dI d fun d=>dI x fun x=>k (.copy s d x)
 |.uF s x h m=>fa s fun s=>dI x fun x=>dI h fun h=>dI m fun m=>k (.uF s x h m)
 |.um x=>dI x fun x=>k (.um x)
 |.rV x=>dI x fun x=>k (.rV x)
 |.call f l=>fa f fun f=>hG dI l fun l=>k (.call f l)
 |.fX f l=>dI f fun f=>hG dI l fun l=>k (.fX f l)
 |.oG n x y=>pa n fun n=>dI x fun x=>dI y fun y=>k (.oG n x y)
 |.ux x=>dI x fun x=>k (.ux x)
 |.rW x=>dI x fun x=>k (.rW x)
 |.tx x=>dI x fun x=>k (.tx x)
 |.uk x=>dI x fun x=>k (.uk x)
def zr(o:bw)(k:bw->β):β:=match o with
 |⟨d,op,b,g⟩=>ro fa d fun d=>L_ op fun op=>pa b fun b=>ro L9 g fun g=>k ⟨d,op,b,g⟩
def kD:a6->(a6->β)->β
 |.skip,k=>k .skip
 |.region o l,k=>hG zr o fun o=>hG fa l fun l=>k (.region o l)
 |.mixed o q l,k=>hG zr o fun o=>hG pa q fun q=>hG fa l fun l=>k (.mixed o q l)
 |.float o q l,k=>hG zr o fun o=>hG (ro (hG fa)) q fun q=>hG fa l fun l=>k (.float o q l)
 |.sE c z o q l,k=>fa c fun c=>hG va z fun z=>hG zr o fun o=>hG (ro (hG fa)) q fun q=>hG fa l fun l=>k (.sE c z o q l)
 |.seq a b,k=>kD a fun a=>kD b fun b=>k (.seq a b)
 |.cond c a b,k=>dI c fun c=>kD a fun a=>kD b fun b=>k (.cond c a b)
 |.block i a,k=>fa i fun i=>kD a fun a=>k (.block i a)
 |.loop l a,k=>hG fa l fun l=>kD a fun a=>k (.loop l a)
 |.scope i l a b,k=>fa i fun i=>hG fa l fun l=>kD a fun a=>kD b fun b=>k (.scope i l a b)
 |.exit i,k=>fa i fun i=>k (.exit i)
 |.label,k=>k .label
 |.goto l,k=>fa l fun l=>k (.goto l)
 |.ret,k=>k .ret
def Ma(r:mn)(k:mn->β):β:=match r with
 |.tmp t=>fa t fun t=>k (.tmp t)
 |.cell a b c=>fa a fun a=>fa b fun b=>pa c fun c=>k (.cell a b c)
def L8(f:bs)(k:bs->β):β:=match f with
 |⟨n,r,b⟩=>fa n fun n=>hG Ma r fun r=>kD b fun b=>k ⟨n,r,b⟩
theorem k6(n:Nat)(k:Nat->β):fa n k=k n:=by cases n<;>rfl
theorem By(b:Bool)(k:Bool->β):pa b k=k b:=by cases b<;>rfl
theorem Bz{α:Type}{f:α->(α->β)->β}(h:∀x k,f x k=k x)(o:Option α)(k:Option α->β):ro f o k=k o:=by
 cases o with
 |none=>rfl
 |some x=>exact h x _
theorem kE{α:Type}{f:α->(α->β)->β}(h:∀x k,f x k=k x):∀(l:List α)(k:List α->β),hG f l k=k l
 |[],_=>rfl
 |x::l,k=>by
  show f x _=_;rw[h,kE h l]
theorem R_{α:Type}(x:α)(k:α->β):va x k=k x:=rfl
theorem BB(x:aU)(k:aU->β):dI x k=k x:=by
 cases x with
 |tmp t=>simp only[dI,k6]
 |const v=>rfl
theorem aEF(x:Nat×Nat×aU)(k:Nat×Nat×aU->β):BA x k=k x:=by
 obtain⟨a,b,y⟩:=x;simp only[BA,k6,BB]
theorem aED(x:Nat×Bool)(k:Nat×Bool->β):L9 x k=k x:=by
 obtain⟨a,b⟩:=x;simp only[L9,k6,By]
theorem aEE(o:dM)(k:dM->β):L_ o k=k o:=by
 cases o<;>simp only[L_,k6,By,BB,kE R_,kE aEF,kE BB,Bz BB]
theorem FR(o:bw)(k:bw->β):zr o k=k o:=by
 obtain⟨d,op,b,g⟩:=o;simp only[zr,Bz k6,aEE,By,Bz aED]
theorem tA:∀(c:a6)(k:a6->β),kD c k=k c
 |.skip,_|.label,_|.ret,_=>rfl
 |.region o l,k=>by simp only[kD,kE FR,kE k6]
 |.mixed o q l,k=>by simp only[kD,kE FR,kE By,kE k6]
 |.float o q l,k=>by simp only[kD,kE FR,kE (Bz (kE k6)),kE k6]
 |.sE c z o q l,k=>by simp only[kD,k6,kE R_,kE FR,kE (Bz (kE k6)),kE k6]
 |.seq a b,k=>by simp only[kD,tA a,tA b]
 |.cond c a b,k=>by simp only[kD,BB,tA a,tA b]
 |.block i a,k=>by simp only[kD,k6,tA a]
 |.loop l a,k=>by simp only[kD,kE k6,tA a]
 |.scope i l a b,k=>by simp only[kD,k6,kE k6,tA a,tA b]
 |.exit i,k=>by simp only[kD,k6]
 |.goto l,k=>by simp only[kD,k6]
theorem aEG(r:mn)(k:mn->β):Ma r k=k r:=by
 cases r<;>simp only[Ma,k6,By]
theorem aEC(f:bs)(k:bs->β):L8 f k=k f:=by
 obtain⟨n,r,b⟩:=f;simp only[L8,k6,kE aEG,tA]
def ww(P:Program):List (Nat×Hints×Bool)->List (Nat×bs×Bool)->(List (Nat×bs×Bool)->β)->β->β
 |[],t,k,_=>k t
 |(n,h,b)::r,t,k,z=>match bB P h n with
  |some fn=>L8 fn fun fn=>ww P r ((n,fn,b)::t) k z
  |none=>z
theorem Yi{P:Program}{z:β}:∀{l:List (Nat×Hints×Bool)}{t:List (Nat×bs×Bool)}{k:List (Nat×bs×Bool)->β}{r:β},p3 P (mj t)->ww P l t k z=r->r≠z->∃hy,p3 P (mj hy)/\k hy=r
 |[],t,k,r,aV,h,_=>⟨t,aV,h⟩
 |(n,hi,b)::l,t,k,r,aV,h,a_=>by
  unfold ww at h;split at h
  . rename_i fn aD
    rw[aEC] at h;exact Yi (dP aD aV) h a_
  . exact absurd h.symm a_
end
end Go.aL
namespace Go.aL.C
open Go.aL
abbrev JH:Nat:=5
abbrev Jy:Nat:=7
abbrev JF:Nat:=8
abbrev JI:Nat:=9
abbrev JJ:Nat:=14
abbrev D3:Nat:=15
abbrev IH:Nat:=16
abbrev Ih:Nat:=17
abbrev DO:Nat:=19
abbrev Ip:Nat:=20
abbrev Ie:Nat:=22
abbrev Ic:Nat:=23
abbrev Ea:Nat:=24
abbrev D_:Nat:=25
abbrev JG:Nat:=26
abbrev Iu:Nat:=31
abbrev DS:Nat:=32
abbrev IE:Nat:=33
abbrev kr:Nat:=34
abbrev Jd:Nat:=35
abbrev I_:Nat:=36
abbrev z_:Nat:=37
abbrev DY:Nat:=38
abbrev IL:Nat:=39
abbrev H9:Nat:=40
abbrev IK:Nat:=41
abbrev Im:Nat:=42
abbrev Ij:Nat:=43
abbrev Ii:Nat:=44
abbrev Ab:Nat:=46
abbrev DP:Nat:=47
abbrev D1:Nat:=48
abbrev DQ:Nat:=49
abbrev DK:Nat:=50
abbrev DL:Nat:=51
abbrev DJ:Nat:=52
abbrev DI:Nat:=53
abbrev Jv:Nat:=54
abbrev ud:Nat:=55
abbrev D0:Nat:=67
abbrev Iy:Nat:=68
abbrev Iw:Nat:=69
abbrev ub:Nat:=70
abbrev Ac:Nat:=71
abbrev z5:Nat:=72
abbrev DV:Nat:=73
abbrev Jg:Nat:=74
abbrev II:Nat:=75
abbrev I3:Nat:=76
abbrev Jt:Nat:=77
abbrev I7:Nat:=78
abbrev Aa:Nat:=79
abbrev j0:Nat:=80
abbrev IR:Nat:=81
abbrev IP:Nat:=82
abbrev IQ:Nat:=83
abbrev Ia:Nat:=84
abbrev DH:Nat:=85
abbrev xU:Nat:=86
abbrev Il:Nat:=87
abbrev Ik:Nat:=88
abbrev rR:Nat:=89
abbrev xY:Nat:=90
abbrev I6:Nat:=91
abbrev D2:Nat:=92
abbrev DG:Nat:=93
abbrev H_:Nat:=94
abbrev Ib:Nat:=95
abbrev It:Nat:=96
abbrev D6:Nat:=97
abbrev z3:Nat:=98
abbrev DM:Nat:=99
abbrev ua:Nat:=100
abbrev JE:Nat:=101
abbrev JC:Nat:=102
abbrev JD:Nat:=103
abbrev JA:Nat:=104
abbrev JB:Nat:=105
abbrev Jx:Nat:=106
abbrev IY:Nat:=123
abbrev IW:Nat:=124
abbrev IX:Nat:=125
abbrev IU:Nat:=126
abbrev IT:Nat:=127
abbrev IS:Nat:=128
abbrev IV:Nat:=129
abbrev Iv:Nat:=130
abbrev vO:Nat:=131
abbrev vP:Nat:=132
abbrev vQ:Nat:=133
abbrev vR:Nat:=134
abbrev Ix:Nat:=135
abbrev I9:Nat:=136
abbrev z6:Nat:=137
abbrev IC:Nat:=138
abbrev z8:Nat:=139
abbrev ID:Nat:=140
abbrev Jb:Nat:=141
abbrev xZ:Nat:=142
abbrev Ad:Nat:=143
abbrev D5:Nat:=144
abbrev I5:Nat:=145
abbrev I8:Nat:=146
abbrev If:Nat:=147
abbrev uc:Nat:=148
abbrev IZ:Nat:=149
abbrev Iz:Nat:=150
abbrev In:Nat:=151
abbrev Al:Nat:=152
abbrev DZ:Nat:=153
abbrev DN:Nat:=154
abbrev x0:Nat:=155
abbrev ks:Nat:=156
abbrev Ju:Nat:=157
abbrev Jz:Nat:=158
abbrev Jw:Nat:=159
abbrev Io:Nat:=165
abbrev z7:Nat:=166
abbrev Je:Nat:=167
abbrev Ae:Nat:=168
abbrev IG:Nat:=169
abbrev Jc:Nat:=170
abbrev Ja:Nat:=171
abbrev I1:Nat:=172
abbrev I2:Nat:=173
abbrev I0:Nat:=174
abbrev Ig:Nat:=175
abbrev IB:Nat:=176
abbrev IA:Nat:=177
abbrev Jq:Nat:=178
abbrev aKK:Nat:=179
abbrev aKI:Nat:=180
abbrev Jo:Nat:=181
abbrev aKQ:Nat:=182
abbrev Js:Nat:=183
abbrev aKO:Nat:=184
abbrev aKM:Nat:=185
abbrev NO:Nat:=186
abbrev IM:Nat:=187
abbrev D9:Nat:=188
abbrev Is:Nat:=197
abbrev Iq:Nat:=198
abbrev DR:Nat:=199
abbrev Ir:Nat:=200
abbrev D4:Nat:=201
abbrev IJ:Nat:=202
abbrev I4:Nat:=203
abbrev DU:Nat:=204
abbrev z4:Nat:=205
abbrev Jm:Nat:=206
abbrev DT:Nat:=207
abbrev Ah:Nat:=211
abbrev D8:Nat:=212
abbrev IN:Nat:=216
abbrev Jf:Nat:=217
abbrev Jh:Nat:=218
abbrev Ak:Nat:=219
abbrev Aj:Nat:=220
abbrev Ji:Nat:=222
abbrev Jl:Nat:=223
abbrev Jk:Nat:=224
abbrev Jj:Nat:=225
abbrev Jp:Nat:=226
abbrev aKJ:Nat:=227
abbrev aKH:Nat:=228
abbrev Jn:Nat:=229
abbrev aKP:Nat:=230
abbrev Jr:Nat:=231
abbrev aKN:Nat:=232
abbrev aKL:Nat:=233
abbrev Af:Nat:=234
abbrev IF:Nat:=235
abbrev j1:Nat:=236
abbrev xW:Nat:=237
abbrev xV:Nat:=238
abbrev Ag:Nat:=240
abbrev D7:Nat:=241
abbrev xX:Nat:=242
abbrev vS:Nat:=243
abbrev z9:Nat:=244
abbrev DX:Nat:=245
abbrev Ai:Nat:=246
abbrev DW:Nat:=247
noncomputable abbrev au:Program:=Go.Proofs.Tryz.prog
end Go.aL.C
namespace Go.aL.C
open Go.aL
abbrev aAp:=J [cu 1 9 0,cl 2 cU] [1]
abbrev aAv:=J [cl 2 cU] [2]
abbrev aAw:=al (J [ai 4 0 1,am 5 4,bF 6 5,bD 7 .gtr 6 5,aN 8 7,ax 8 (ai 9 2 1),ax 8 (am 10 9),ax 8 (bF 11 10),ax 8 (bD 12 .gtr 11 7),cC 13 8 12,aN 14 13,ax 14 (ai 15 3 1),ax 14 (am 16 15),ax 14 (bF 17 16),ax 14 (bD 18 .gtr 17 30),cC 19 14 18,aN 20 19,ax 20 (ai 21 4 1),ax 20 (am 22 21),ax 20 (bF 23 22),ax 20 (bD 24 .gtr 23 60),cC 25 20 24] [1,25]) (aH 25 (al aAv aR) aC)
abbrev aAx:=J [aQ 3 0] [1,3]
abbrev aAq:=al (J [I 26 3,ai 27 2 1,am 28 27,bF 29 28,bv 30 .lss 26 29] [1,3,30]) (aH 30 aC (bS 0))
abbrev aAr:=J [cl 2 cU] [2]
abbrev aAs:=al (J [ai 33 2 1,am 34 33,I 35 3,bi 36 8 34 35,ai 37 7 36,am 38 37,bF 39 38,bD 40 .gtr 39 6] [1,3,40]) (aH 40 (al aAr aR) aC)
abbrev aAt:=J [I 31 3,be 32 .add 31 1,I 3 32] [1,3]
abbrev aAu:=J [aY 41 9 1,cW 42 D_ [ab 41],aN 2 42] [2]
def Hc:bs:=⟨43,[(.tmp 2)],f3 aAp aAw (al aAx (bb 0 (cg [1,3] (cb aAq (bb 1 aAs) aAt)))) aAu aR⟩
theorem aGx:bB au (bE au Jy Hc []) Jy=some Hc:=by kernel_rfl
abbrev aBY:=J [cu 2 9 0,cu 3 10 1,aQ 4 0] [2,3]
abbrev aB1:=J [aQ 4 21] [4]
abbrev aB2:=al (J [aY 5 9 2,cW 6 D_ [ab 5],cM 7 6] [2,3,7]) (aH 7 (al aB1 aR) aC)
abbrev aB3:=J [aQ 4 22] [4]
abbrev aBZ:=al (J [ai 8 0 2,am 9 8,bF 10 9,aY 11 10 3,cW 12 JG [ab 10,ab 11],cM 13 12] [13]) (aH 13 (al aB3 aR) aC)
abbrev aB0:=J [aQ 4 0] [4]
def Hm:bs:=⟨14,[(.tmp 4)],f3 aBY aB2 aBZ aB0 aR⟩
theorem aGH:bB au (bE au JF Hm []) JF=some Hm:=by kernel_rfl
abbrev ahp:=J [cu 2 9 0,cu 3 10 1,cl 4 cU] [2,3]
abbrev ahq:=J [aY 5 9 2,cW 6 Jy [ab 5],aN 7 6,av 7 (ai 8 4 3),av 7 (am 9 8),av 7 (bD 10 .leq 9 3),cG 11 7 10,aN 12 11,av 12 (aY 13 9 2),av 12 (aY 14 10 3),av 12 (bt 15 JF [ab 13,ab 14]),av 12 (bD 16 .eql 15 0),cG 17 12 16,aN 4 17] [4]
def Hq:bs:=⟨18,[(.tmp 4)],cb ahp ahq aR⟩
theorem aGL:bB au (bE au JJ Hq []) JJ=some Hq:=by kernel_rfl
abbrev at9:=J [cu 1 9 0,cl 2 cU] [1]
abbrev aua:=J [aY 7 9 1,bt 8 Jv [ab 7],I 6 8,c_ 9 6 0,c_ 10 6 1,c_ 11 6 2,I 3 9,I 4 10,I 5 11] [5]
abbrev aub:=J [I 12 5,bD 13 .eql 12 0,aN 2 13] [2]
def Hd:bs:=⟨14,[(.tmp 2)],cv at9 aua aub aR⟩
theorem aGz:bB au (bE au D_ Hd []) D_=some Hd:=by kernel_rfl
abbrev auc:=J [cu 3 10 1,cl 4 cU] [0,3]
abbrev aud:=J [ai 5 0 3,am 6 5,I 7 0,be 8 .sub 7 1,cW 9 ud [ab 6,bX 0,ab 8],aN 10 9,av 10 (ai 11 1 3),av 10 (am 12 11),av 10 (I 13 0),av 10 (be 14 .sub 13 1),av 10 (cW 15 ud [ab 12,bX 0,ab 14]),cG 16 10 15,aN 17 16,av 17 (ai 18 2 3),av 17 (am 19 18),av 17 (cW 20 ud [ab 19,bX 0,bX 3155932800]),cG 21 17 20,aN 22 21,av 22 (ai 23 4 3),av 22 (am 24 23),av 22 (cW 25 ud [ab 24,bX 0,bX 8]),cG 26 22 25,aN 27 26,av 27 (ai 28 5 3),av 27 (am 29 28),av 27 (cW 30 ud [ab 29,bX 0,bX 86400]),cG 31 27 30,aN 32 31,av 32 (ai 33 8 3),av 32 (am 34 33),av 32 (cW 35 ud [ab 34,bX 0,bX 255]),cG 36 32 35,aN 37 36,av 37 (ai 38 9 3),av 37 (eJ 39 38),av 37 (aN 40 39),av 40 (ai 41 3 3),av 40 (eJ 42 41),av 37 (cG 43 40 42),av 37 (cM 44 43),cG 45 37 44,aN 4 45] [4]
def Hn:bs:=⟨46,[(.tmp 4)],cb auc aud aR⟩
theorem aGI:bB au (bE au JG Hn []) JG=some Hn:=by kernel_rfl
abbrev axG:=J [cu 1 9 0,aQ 2 0,aQ 3 0,aQ 4 0] [1]
abbrev axQ:=J [ai 10 0 1,am 11 10,bt 12 JE [ab 11],I 9 12,c_ 13 9 0,c_ 14 9 1,I 5 13,I 6 14] [1,5,6]
abbrev axX:=J [I 17 5,I 18 6,aQ 2 0,I 3 17,I 4 18] [2,3,4]
abbrev ax8:=al (J [I 15 6,bD 16 .neq 15 0] [1,5,6,16]) (aH 16 (al axX aR) aC)
abbrev axH:=J [ai 20 1 1,am 21 20,bt 22 JC [ab 21],I 19 22,c_ 23 19 0,c_ 24 19 1,I 5 23,I 6 24] [1,5,6]
abbrev axI:=J [I 27 5,I 28 6,aQ 2 1,I 3 27,I 4 28] [2,3,4]
abbrev axJ:=al (J [I 25 6,bD 26 .neq 25 0] [1,5,6,26]) (aH 26 (al axI aR) aC)
abbrev axK:=J [aQ 2 2,aQ 3 0,aQ 4 5] [2,3,4]
abbrev axL:=al (J [ai 29 2 1,am 30 29,bF 31 30,bD 32 .gtr 31 1024] [1,32]) (aH 32 (al axK aR) aC)
abbrev axM:=J [aQ 7 0] [1,7]
abbrev axN:=al (J [I 33 7,ai 34 2 1,am 35 34,bF 36 35,bv 37 .lss 33 36] [1,7,37]) (aH 37 aC (bS 0))
abbrev axO:=J [aY 40 9 1,I 41 7,bt 42 JD [ab 40,ab 41],I 6 42] [1,6,7]
abbrev axP:=J [I 45 7,I 46 6,aQ 2 2,I 3 45,I 4 46] [2,3,4]
abbrev axR:=al (J [I 43 6,bD 44 .neq 43 0] [1,6,7,44]) (aH 44 (al axP aR) aC)
abbrev axS:=J [I 38 7,be 39 .add 38 1,I 7 39] [1,7]
abbrev axT:=J [aQ 2 3,aQ 3 0,aQ 4 5] [2,3,4]
abbrev axU:=al (J [ai 47 3 1,am 48 47,bF 49 48,bD 50 .gtr 49 1024] [1,50]) (aH 50 (al axT aR) aC)
abbrev axV:=J [aQ 8 0] [1,8]
abbrev axW:=al (J [I 51 8,ai 52 3 1,am 53 52,bF 54 53,bv 55 .lss 51 54] [1,8,55]) (aH 55 aC (bS 2))
abbrev axY:=J [aY 58 9 1,I 59 8,bt 60 JA [ab 58,ab 59],I 6 60] [1,6,8]
abbrev axZ:=J [I 63 8,I 64 6,aQ 2 3,I 3 63,I 4 64] [2,3,4]
abbrev ax0:=al (J [I 61 6,bD 62 .neq 61 0] [1,6,8,62]) (aH 62 (al axZ aR) aC)
abbrev ax1:=J [I 56 8,be 57 .add 56 1,I 8 57] [1,8]
abbrev ax2:=J [aY 66 9 1,bt 67 JB [ab 66],I 65 67,c_ 68 65 0,c_ 69 65 1,I 5 68,I 6 69] [1,5,6]
abbrev ax3:=J [I 72 5,I 73 6,aQ 2 4,I 3 72,I 4 73] [2,3,4]
abbrev ax4:=al (J [I 70 6,bD 71 .neq 70 0] [1,5,6,71]) (aH 71 (al ax3 aR) aC)
abbrev ax5:=J [ai 75 5 1,aY 76 4 75,bt 77 Jx [ab 76],I 74 77,c_ 78 74 0,c_ 79 74 1,I 5 78,I 6 79] [5,6]
abbrev ax6:=J [I 82 5,I 83 6,aQ 2 5,I 3 82,I 4 83] [2,3,4]
abbrev ax7:=al (J [I 80 6,bD 81 .neq 80 0] [5,6,81]) (aH 81 (al ax6 aR) aC)
abbrev ax9:=J [aQ 2 0,aQ 3 0,aQ 4 0] [2,3,4]
def G9:bs:=⟨84,[(.tmp 2),(.tmp 3),(.tmp 4)],iL axG axQ ax8 axH axJ axL (al axM (bb 0 (cg [1,7] (cb axN (bb 1 (al axO axR)) axS)))) (iL axU (al axV (bb 2 (cg [1,8] (cb axW (bb 3 (al axY ax0)) ax1)))) ax2 ax4 ax5 ax7 ax9 aR)⟩
theorem aGt:bB au (bE au Jv G9 []) Jv=some G9:=by kernel_rfl
abbrev ax_:=J [cl 6 cU] [0,1,2]
abbrev aya:=J [I 7 0,I 8 1,bv 9 .geq 7 8,aN 10 9,av 10 (I 11 0),av 10 (I 12 2),av 10 (bv 13 .leq 11 12),cG 14 10 13,aN 6 14] [6]
def Ho:bs:=⟨15,[(.tmp 6)],cb ax_ aya aR⟩
theorem aGJ:bB au (bE au ud Ho []) ud=some Ho:=by kernel_rfl
abbrev ac8:=J [aQ 2 0,aQ 3 0] [0]
abbrev adh:=J [aQ 2 0,aQ 3 5] [2,3]
abbrev adm:=al (J [I 6 0,bF 7 6,bD 8 .gtr 7 64] [0,8]) (aH 8 (al adh aR) aC)
abbrev adn:=J [aQ 4 0] [0,4]
abbrev ac9:=al (J [I 9 4,I 10 0,bF 11 10,bv 12 .lss 9 11] [0,4,12]) (aH 12 aC (bS 0))
abbrev ac_:=J [I 22 4,I 2 22,aQ 3 12] [2,3]
abbrev ada:=al (J [I 15 0,I 16 4,bi 17 4 15 16,ai 18 0 17,am 19 18,cW 20 x0 [ab 19],cM 21 20] [0,4,21]) (aH 21 (al ac_ aR) aC)
abbrev adb:=J [aQ 5 0] [0,4,5]
abbrev adc:=al (J [I 23 5,I 24 4,bv 25 .lss 23 24] [0,4,5,25]) (aH 25 aC (bS 2))
abbrev ade:=J [I 39 4,I 2 39,aQ 3 6] [2,3]
abbrev adf:=al (di [I 28 0,I 29 5,bi 30 4 28 29,ai 31 0 30,am 32 31,I 33 0,I 34 4,bi 35 4 33 34,ai 36 0 35,am 37 36,bv 38 .eql 32 37] [U,U,U,U,U,U,U,U,U,U,U] [0,4,5,38]) (aH 38 (al ade aR) aC)
abbrev adg:=J [I 26 5,be 27 .add 26 1,I 5 27] [0,4,5]
abbrev adi:=J [I 56 4,I 2 56,aQ 3 2] [2,3]
abbrev adj:=al (J [I 40 0,I 41 4,bi 42 4 40 41,ai 43 1 42,am 44 43,cW 45 ks [ab 44,bX 0,bX 15],cM 46 45,aN 47 46,ax 47 (I 48 0),ax 47 (I 49 4),ax 47 (bi 50 4 48 49),ax 47 (ai 51 3 50),ax 47 (am 52 51),ax 47 (cW 53 ks [ab 52,bX 0,bX 3600]),ax 47 (cM 54 53),cC 55 47 54] [0,4,55]) (aH 55 (al adi aR) aC)
abbrev adk:=J [I 13 4,be 14 .add 13 1,I 4 14] [0,4]
abbrev adl:=J [aQ 2 0,aQ 3 0] [2,3]
def Hl:bs:=⟨57,[(.tmp 2),(.tmp 3)],f3 ac8 adm (al adn (bb 0 (cg [0,4] (cb ac9 (bb 1 (cb ada (al adb (bb 2 (cg [0,4,5] (cb adc (bb 3 adf) adg)))) adj)) adk)))) adl aR⟩
theorem aGG:bB au (bE au JE Hl []) JE=some Hl:=by kernel_rfl
abbrev ado:=J [aQ 2 0,aQ 3 0] [0]
abbrev adx:=J [aQ 2 0,aQ 3 5] [2,3]
abbrev adC:=al (J [I 6 0,bF 7 6,bD 8 .gtr 7 64] [0,8]) (aH 8 (al adx aR) aC)
abbrev adD:=J [aQ 4 0] [0,4]
abbrev adp:=al (J [I 9 4,I 10 0,bF 11 10,bv 12 .lss 9 11] [0,4,12]) (aH 12 aC (bS 0))
abbrev adq:=J [I 22 4,I 2 22,aQ 3 12] [2,3]
abbrev adr:=al (J [I 15 0,I 16 4,bi 17 3 15 16,ai 18 0 17,am 19 18,cW 20 x0 [ab 19],cM 21 20] [0,4,21]) (aH 21 (al adq aR) aC)
abbrev ads:=J [aQ 5 0] [0,4,5]
abbrev adt:=al (J [I 23 5,I 24 4,bv 25 .lss 23 24] [0,4,5,25]) (aH 25 aC (bS 2))
abbrev adu:=J [I 39 4,I 2 39,aQ 3 6] [2,3]
abbrev adv:=al (di [I 28 0,I 29 5,bi 30 3 28 29,ai 31 0 30,am 32 31,I 33 0,I 34 4,bi 35 3 33 34,ai 36 0 35,am 37 36,bv 38 .eql 32 37] [U,U,U,U,U,U,U,U,U,U,U] [0,4,5,38]) (aH 38 (al adu aR) aC)
abbrev adw:=J [I 26 5,be 27 .add 26 1,I 5 27] [0,4,5]
abbrev ady:=J [I 47 4,I 2 47,aQ 3 2] [2,3]
abbrev adz:=al (J [I 40 0,I 41 4,bi 42 3 40 41,ai 43 1 42,am 44 43,cW 45 ks [ab 44,bX 0,bX 7],cM 46 45] [0,4,46]) (aH 46 (al ady aR) aC)
abbrev adA:=J [I 13 4,be 14 .add 13 1,I 4 14] [0,4]
abbrev adB:=J [aQ 2 0,aQ 3 0] [2,3]
def Hj:bs:=⟨48,[(.tmp 2),(.tmp 3)],f3 ado adC (al adD (bb 0 (cg [0,4] (cb adp (bb 1 (cb adr (al ads (bb 2 (cg [0,4,5] (cb adt (bb 3 adv) adw)))) adz)) adA)))) adB aR⟩
theorem aGE:bB au (bE au JC Hj []) JC=some Hj:=by kernel_rfl
abbrev adE:=J [cu 2 9 0,aQ 4 0] [1,2]
abbrev adN:=J [ai 9 2 2,am 10 9,I 11 1,bi 12 8 10 11,aY 13 8 12,cy 5 [ae,ae,ae,.str [],ae,b3,b3,c1],br 8 5 13] [1,2,5]
abbrev adV:=J [aQ 4 12] [4]
abbrev adX:=al (J [ai 14 3 5,am 15 14,cW 16 x0 [ab 15],cM 17 16] [1,2,5,17]) (aH 17 (al adV aR) aC)
abbrev adF:=J [aQ 4 2] [4]
abbrev adG:=al (J [ai 18 0 5,am 19 18,bD 20 .lss 19 (-1),aN 21 20,ax 21 (ai 22 2 5),ax 21 (am 23 22),ax 21 (bD 24 .lss 23 0),cC 25 21 24] [1,2,5,25]) (aH 25 (al adF aR) aC)
abbrev adH:=J [aQ 4 11] [4]
abbrev adI:=al (J [ai 26 1 5,am 27 26,cW 28 ks [ab 27,bX 0,bX 36524],cM 29 28] [1,2,5,29]) (aH 29 (al adH aR) aC)
abbrev adJ:=J [aQ 4 9] [4]
abbrev adK:=al (J [ai 30 4 5,am 31 30,bD 32 .lss 31 0,aN 33 32,ax 33 (ai 34 4 5),ax 33 (am 35 34),ax 33 (ai 36 1 2),ax 33 (am 37 36),ax 33 (bF 38 37),ax 33 (bv 39 .geq 35 38),cC 40 33 39] [1,2,5,40]) (aH 40 (al adJ aR) aC)
abbrev adL:=J [ai 41 7 5,am 42 41,ai 43 0 2,am 44 43,bF 45 44,bt 46 Ju [ab 42,ab 45,bX 0,bX 3155932800],I 6 46] [1,2,5,6]
abbrev adM:=J [I 49 6,I 4 49] [4]
abbrev adO:=al (J [I 47 6,bD 48 .neq 47 0] [1,2,5,6,48]) (aH 48 (al adM aR) aC)
abbrev adP:=J [aQ 7 0] [1,2,5,7]
abbrev adQ:=al (J [I 50 7,I 51 1,bv 52 .lss 50 51] [1,2,5,7,52]) (aH 52 aC (bS 0))
abbrev adR:=J [ai 55 2 2,am 56 55,I 57 7,bi 58 8 56 57,aY 59 8 58,cy 8 [ae,ae,ae,.str [],ae,b3,b3,c1],br 8 8 59] [1,2,5,7,8]
abbrev adS:=J [aQ 4 6] [4]
abbrev adT:=al (J [ai 60 3 8,am 61 60,ai 62 3 5,am 63 62,bv 64 .eql 61 63,aN 65 64,av 65 (ai 66 1 8),av 65 (am 67 66),av 65 (ai 68 1 5),av 65 (am 69 68),av 65 (bv 70 .eql 67 69),cG 71 65 70,aN 72 71,av 72 (ai 73 2 8),av 72 (am 74 73),av 72 (ai 75 2 5),av 72 (am 76 75),av 72 (bv 77 .eql 74 76),cG 78 72 77] [1,2,5,7,78]) (aH 78 (al adS aR) aC)
abbrev adU:=J [I 53 7,be 54 .add 53 1,I 7 54] [1,2,5,7]
abbrev adW:=J [aQ 4 0] [4]
def Hk:bs:=⟨79,[(.tmp 4)],cv adE adN adX (iL adG adI adK adL adO (al adP (bb 0 (cg [1,2,5,7] (cb adQ (bb 1 (al adR adT)) adU)))) adW aR)⟩
theorem aGF:bB au (bE au JD Hk []) JD=some Hk:=by kernel_rfl
abbrev adY:=J [cu 2 9 0,aQ 4 0] [1,2]
abbrev ad8:=J [ai 12 3 2,am 13 12,I 14 1,bi 15 5 13 14,aY 16 5 15,cy 5 [ae,ae,ae,ae,b3],br 5 5 16] [1,2,5]
abbrev aed:=J [aQ 4 9] [4]
abbrev aem:=al (J [ai 17 0 5,am 18 17,ai 19 2 2,am 20 19,bF 21 20,be 22 .sub 21 1,cW 23 ks [ab 18,bX 0,ab 22],cM 24 23,aN 25 24,ax 25 (ai 26 2 5),ax 25 (am 27 26),ax 25 (ai 28 2 2),ax 25 (am 29 28),ax 25 (bF 30 29),ax 25 (be 31 .sub 30 1),ax 25 (cW 32 ks [ab 27,bX 0,ab 31]),ax 25 (cM 33 32),cC 34 25 33,aN 35 34,ax 35 (ai 36 0 5),ax 35 (am 37 36),ax 35 (ai 38 2 5),ax 35 (am 39 38),ax 35 (bv 40 .eql 37 39),cC 41 35 40] [1,2,5,41]) (aH 41 (al aed aR) aC)
abbrev adZ:=di [ai 42 2 2,am 43 42,ai 44 0 5,am 45 44,bi 46 8 43 45,ai 47 7 46,am 48 47,ai 49 2 2,am 50 49,ai 51 2 5,am 52 51,bi 53 8 50 52,ai 54 7 53,am 55 54,I 6 48,I 7 55] [U,U,U,U,U,U,U,U,U,U,U,U,U,U,U,U] [1,2,5,6,7]
abbrev ad0:=J [aQ 4 9] [4]
abbrev ad1:=al (J [ai 56 1 5,am 57 56,I 58 6,bF 59 58,be 60 .sub 59 1,cW 61 ks [ab 57,bX 0,ab 60],cM 62 61,aN 63 62,ax 63 (ai 64 3 5),ax 63 (am 65 64),ax 63 (I 66 7),ax 63 (bF 67 66),ax 63 (be 68 .sub 67 1),ax 63 (cW 69 ks [ab 65,bX 0,ab 68]),ax 63 (cM 70 69),cC 71 63 70] [1,2,5,6,7,71]) (aH 71 (al ad0 aR) aC)
abbrev ad2:=J [aQ 4 13] [4]
abbrev ad3:=al (di [I 72 6,ai 73 1 5,am 74 73,bi 75 5 72 74,ai 76 0 75,am 77 76,I 78 7,ai 79 3 5,am 80 79,bi 81 5 78 80,ai 82 0 81,am 83 82,bv 84 .neq 77 83] [U,U,U,U,U,U,U,U,U,U,U,U,U] [1,2,5,6,84]) (aH 84 (al ad2 aR) aC)
abbrev ad4:=J [aQ 4 19] [4]
abbrev ad5:=al (J [ai 85 4 5,eJ 86 85,aN 87 86,av 87 (ai 88 1 5),av 87 (am 89 88),av 87 (I 90 6),av 87 (bF 91 90),av 87 (be 92 .sub 91 1),av 87 (bv 93 .neq 89 92),av 87 (aN 94 93),ax 94 (ai 95 3 5),ax 94 (am 96 95),ax 94 (bD 97 .neq 96 0),av 87 (cC 98 94 97),cG 99 87 98] [1,2,5,99]) (aH 99 (al ad4 aR) aC)
abbrev ad6:=J [aQ 8 0] [1,2,5,8]
abbrev ad7:=al (J [I 100 8,I 101 1,bv 102 .lss 100 101] [1,2,5,8,102]) (aH 102 aC (bS 0))
abbrev ad9:=J [ai 105 3 2,am 106 105,I 107 8,bi 108 5 106 107,aY 109 5 108,cy 9 [ae,ae,ae,ae,b3],br 5 9 109] [1,2,5,8,9]
abbrev ad_:=J [aQ 4 19] [4]
abbrev aea:=al (J [ai 110 4 5,eJ 111 110,aN 112 111,av 112 (ai 113 4 9),av 112 (eJ 114 113),cG 115 112 114,aN 116 115,av 116 (ai 117 0 9),av 116 (am 118 117),av 116 (ai 119 0 5),av 116 (am 120 119),av 116 (bv 121 .eql 118 120),av 116 (aN 122 121),ax 122 (ai 123 2 9),ax 122 (am 124 123),ax 122 (ai 125 2 5),ax 122 (am 126 125),ax 122 (bv 127 .eql 124 126),av 116 (cC 128 122 127),cG 129 116 128] [1,2,5,8,129]) (aH 129 (al ad_ aR) aC)
abbrev aeb:=J [I 103 8,be 104 .add 103 1,I 8 104] [1,2,5,8]
abbrev aec:=J [aQ 4 19] [4]
abbrev aee:=al (J [ai 130 4 5,eJ 131 130,aN 132 131,av 132 (aY 133 9 2),av 132 (I 134 1),av 132 (ai 135 2 5),av 132 (am 136 135),av 132 (ai 137 0 5),av 132 (am 138 137),av 132 (cW 139 Jz [ab 133,ab 134,ab 136,ab 138]),cG 140 132 139] [1,2,5,140]) (aH 140 (al aec aR) aC)
abbrev aef:=J [aQ 10 0] [1,2,5,10]
abbrev aeg:=al (J [I 141 10,I 142 1,bv 143 .lss 141 142] [1,2,5,10,143]) (aH 143 aC (bS 2))
abbrev aeh:=J [ai 146 3 2,am 147 146,I 148 10,bi 149 5 147 148,aY 150 5 149,cy 11 [ae,ae,ae,ae,b3],br 5 11 150] [1,2,5,10,11]
abbrev aei:=J [aQ 4 6] [4]
abbrev aej:=al (J [ai 151 0 11,am 152 151,ai 153 0 5,am 154 153,bv 155 .eql 152 154,aN 156 155,av 156 (ai 157 1 11),av 156 (am 158 157),av 156 (ai 159 1 5),av 156 (am 160 159),av 156 (bv 161 .eql 158 160),cG 162 156 161,aN 163 162,av 163 (ai 164 2 11),av 163 (am 165 164),av 163 (ai 166 2 5),av 163 (am 167 166),av 163 (bv 168 .eql 165 167),cG 169 163 168,aN 170 169,av 170 (ai 171 3 11),av 170 (am 172 171),av 170 (ai 173 3 5),av 170 (am 174 173),av 170 (bv 175 .eql 172 174),cG 176 170 175] [1,2,5,10,176]) (aH 176 (al aei aR) aC)
abbrev aek:=J [I 144 10,be 145 .add 144 1,I 10 145] [1,2,5,10]
abbrev ael:=J [aQ 4 0] [4]
def Hh:bs:=⟨177,[(.tmp 4)],f3 adY ad8 aem adZ (iL ad1 ad3 ad5 (al ad6 (bb 0 (cg [1,2,5,8] (cb ad7 (bb 1 (al ad9 aea)) aeb)))) aee (al aef (bb 2 (cg [1,2,5,10] (cb aeg (bb 3 (al aeh aej)) aek)))) ael aR)⟩
theorem aGC:bB au (bE au JA Hh []) JA=some Hh:=by kernel_rfl
abbrev aen:=J [cu 1 9 0,aQ 2 0,aQ 3 0] [1]
abbrev aew:=J [aQ 4 0] [1,4]
abbrev aez:=al (J [I 10 4,ai 11 4 1,am 12 11,bF 13 12,bv 14 .lss 10 13] [1,4,14]) (aH 14 aC (bS 0))
abbrev aeI:=J [ai 17 4 1,am 18 17,I 19 4,bi 20 4 18 19,aY 21 4 20,cy 5 [ae,ae,ae,b3],br 4 5 21] [1,4,5]
abbrev aeK:=J [I 47 4,I 2 47,aQ 3 9] [2,3]
abbrev aeo:=al (J [ai 22 0 5,am 23 22,ai 24 0 1,am 25 24,bF 26 25,be 27 .sub 26 1,cW 28 ks [ab 23,bX 0,ab 27],cM 29 28,aN 30 29,ax 30 (ai 31 1 5),ax 30 (am 32 31),ax 30 (ai 33 0 1),ax 30 (am 34 33),ax 30 (bF 35 34),ax 30 (be 36 .sub 35 1),ax 30 (cW 37 ks [ab 32,bX 0,ab 36]),ax 30 (cM 38 37),cC 39 30 38,aN 40 39,ax 40 (ai 41 0 5),ax 40 (am 42 41),ax 40 (ai 43 1 5),ax 40 (am 44 43),ax 40 (bv 45 .eql 42 44),cC 46 40 45] [1,4,5,46]) (aH 46 (al aeK aR) aC)
abbrev aep:=J [I 52 4,I 2 52,aQ 3 2] [2,3]
abbrev aeq:=al (J [ai 48 2 5,am 49 48,cW 50 ks [ab 49,bX 1,bX 14400],cM 51 50] [1,4,5,51]) (aH 51 (al aep aR) aC)
abbrev aer:=J [aQ 6 0] [1,4,5,6]
abbrev aes:=al (J [I 53 6,I 54 4,bv 55 .lss 53 54] [1,4,5,6,55]) (aH 55 aC (bS 2))
abbrev aet:=J [ai 58 4 1,am 59 58,I 60 6,bi 61 4 59 60,aY 62 4 61,cy 7 [ae,ae,ae,b3],br 4 7 62] [1,4,5,6,7]
abbrev aeu:=J [I 82 4,I 2 82,aQ 3 6] [2,3]
abbrev aev:=al (J [ai 63 0 7,am 64 63,ai 65 0 5,am 66 65,bv 67 .eql 64 66,aN 68 67,av 68 (ai 69 1 7),av 68 (am 70 69),av 68 (ai 71 1 5),av 68 (am 72 71),av 68 (bv 73 .eql 70 72),cG 74 68 73,aN 75 74,av 75 (ai 76 3 7),av 75 (eJ 77 76),av 75 (ai 78 3 5),av 75 (eJ 79 78),av 75 (d8 80 (.bin .eql .bool (ab 77) (ab 79))),cG 81 75 80] [1,4,5,6,81]) (aH 81 (al aeu aR) aC)
abbrev aex:=J [I 56 6,be 57 .add 56 1,I 6 57] [1,4,5,6]
abbrev aey:=J [I 15 4,be 16 .add 15 1,I 4 16] [1,4]
abbrev aeA:=J [ai 83 4 1,am 84 83,ai 85 0 1,am 86 85,bF 87 86,bt 88 Jw [ab 84,ab 87],I 8 88] [1,8]
abbrev aeB:=J [aQ 2 0,aQ 3 18] [2,3]
abbrev aeC:=al (J [I 89 8,bF 90 89,ai 91 4 1,am 92 91,bF 93 92,bv 94 .neq 90 93] [1,8,94]) (aH 94 (al aeB aR) aC)
abbrev aeD:=J [aQ 9 0] [1,8,9]
abbrev aeE:=al (J [I 95 9,I 96 8,bF 97 96,bv 98 .lss 95 97] [1,8,9,98]) (aH 98 aC (bS 4))
abbrev aeF:=J [aQ 2 0,aQ 3 18] [2,3]
abbrev aeG:=al (di [I 101 8,I 102 9,bi 103 4 101 102,aY 104 4 103,ai 105 4 1,am 106 105,I 107 9,bi 108 4 106 107,aY 109 4 108,d8 110 (.bin .neq (.cells [.int,.int,.int,.bool]) (ab 104) (ab 109))] [U,U,U,U,U,U,U,U,U,U] [1,8,9,110]) (aH 110 (al aeF aR) aC)
abbrev aeH:=J [I 99 9,be 100 .add 99 1,I 9 100] [1,8,9]
abbrev aeJ:=J [aQ 2 0,aQ 3 0] [2,3]
def Hi:bs:=⟨111,[(.tmp 2),(.tmp 3)],uh aen (al aew (bb 0 (cg [1,4] (cb aez (bb 1 (f3 aeI aeo aeq aer (bb 2 (cg [1,4,5,6] (cb aes (bb 3 (al aet aev)) aex))))) aey)))) aeA aeC (al aeD (bb 4 (cg [1,8,9] (cb aeE (bb 5 aeG) aeH)))) aeJ aR⟩
theorem aGD:bB au (bE au JB Hi []) JB=some Hi:=by kernel_rfl
abbrev aeL:=J [cu 1 4 0,aQ 2 0,aQ 3 0] [1]
abbrev aeV:=J [aQ 2 (-1),aQ 3 2] [2,3]
abbrev ae2:=al (J [ai 7 1 1,am 8 7,cW 9 ks [ab 8,bX 0,bX 1000000],cM 10 9,aN 11 10,ax 11 (ai 12 2 1),ax 11 (am 13 12),ax 11 (cW 14 ks [ab 13,bX 0,bX 86400]),ax 11 (cM 15 14),cC 16 11 15,aN 17 16,ax 17 (ai 18 3 1),ax 17 (am 19 18),ax 17 (cW 20 ks [ab 19,bX 0,bX 1000000]),ax 17 (cM 21 20),cC 22 17 21] [1,22]) (aH 22 (al aeV aR) aC)
abbrev ae3:=J [aQ 2 0,aQ 3 5] [2,3]
abbrev aeM:=al (J [ai 23 0 1,am 24 23,bF 25 24,bD 26 .gtr 25 16] [1,26]) (aH 26 (al ae3 aR) aC)
abbrev aeN:=J [aQ 4 0] [1,4]
abbrev aeO:=al (J [I 27 4,ai 28 0 1,am 29 28,bF 30 29,bv 31 .lss 27 30] [1,4,31]) (aH 31 aC (bS 0))
abbrev aeP:=J [ai 34 0 1,am 35 34,I 36 4,bi 37 6 35 36,aY 38 6 37,cy 5 [.str [],ae,ae,ae,ae,ae],br 6 5 38] [1,4,5]
abbrev aeQ:=J [I 43 4,I 2 43,aQ 3 12] [2,3]
abbrev aeR:=al (J [ai 39 0 5,am 40 39,cW 41 x0 [ab 40],cM 42 41] [1,4,5,42]) (aH 42 (al aeQ aR) aC)
abbrev aeS:=J [aQ 6 0] [1,4,5,6]
abbrev aeT:=al (J [I 44 6,I 45 4,bv 46 .lss 44 45] [1,4,5,6,46]) (aH 46 aC (bS 2))
abbrev aeU:=J [I 58 4,I 2 58,aQ 3 6] [2,3]
abbrev aeW:=al (di [ai 49 0 1,am 50 49,I 51 6,bi 52 6 50 51,ai 53 0 52,am 54 53,ai 55 0 5,am 56 55,bv 57 .eql 54 56] [U,U,U,U,U,U,U,U,U] [1,4,5,6,57]) (aH 57 (al aeU aR) aC)
abbrev aeX:=J [I 47 6,be 48 .add 47 1,I 6 48] [1,4,5,6]
abbrev aeY:=J [I 87 4,I 2 87,aQ 3 2] [2,3]
abbrev aeZ:=al (J [ai 59 1 5,am 60 59,cW 61 ks [ab 60,bX 0,bX 1000000],cM 62 61,aN 63 62,ax 63 (ai 64 2 5),ax 63 (am 65 64),ax 63 (cW 66 ks [ab 65,bX 1,bX 8]),ax 63 (cM 67 66),cC 68 63 67,aN 69 68,ax 69 (ai 70 3 5),ax 69 (am 71 70),ax 69 (cW 72 ks [ab 71,bX 1,bX 16]),ax 69 (cM 73 72),cC 74 69 73,aN 75 74,ax 75 (ai 76 4 5),ax 75 (am 77 76),ax 75 (cW 78 ks [ab 77,bX 0,bX 86400]),ax 75 (cM 79 78),cC 80 75 79,aN 81 80,ax 81 (ai 82 5 5),ax 81 (am 83 82),ax 81 (cW 84 ks [ab 83,bX 1,bX 255]),ax 81 (cM 85 84),cC 86 81 85] [1,4,86]) (aH 86 (al aeY aR) aC)
abbrev ae0:=J [I 32 4,be 33 .add 32 1,I 4 33] [1,4]
abbrev ae1:=J [aQ 2 0,aQ 3 0] [2,3]
def Ha:bs:=⟨88,[(.tmp 2),(.tmp 3)],hM aeL ae2 aeM (al aeN (bb 0 (cg [1,4] (cb aeO (bb 1 (cv aeP aeR (al aeS (bb 2 (cg [1,4,5,6] (cb aeT (bb 3 aeW) aeX)))) aeZ)) ae0)))) ae1 aR⟩
theorem aGv:bB au (bE au Jx Ha []) Jx=some Ha:=by kernel_rfl
abbrev aii:=J [cl 2 cU] [0]
abbrev aip:=J [cl 2 cU] [2]
abbrev air:=al (J [I 6 0,a0 7 (.nJ (ab 6)),bD 8 .lss 7 1,aN 9 8,ax 9 (I 10 0),ax 9 (a0 11 (.nJ (ab 10))),ax 9 (bD 12 .gtr 11 32),cC 13 9 12] [0,13]) (aH 13 (al aip aR) aC)
abbrev ais:=J [aQ 3 0] [0,3]
abbrev aij:=al (J [I 14 3,I 15 0,a0 16 (.nJ (ab 15)),bv 17 .lss 14 16] [0,3,17]) (aH 17 aC (bS 0))
abbrev aik:=J [I 20 0,I 21 3,a0 22 (.pD (ab 20) (ab 21)),I 4 22] [0,3,4]
abbrev ail:=J [I 23 4,d8 24 (.bin .geq .none (ab 23) (.const (.int .u8 97))),aN 25 24,av 25 (I 26 4),av 25 (d8 27 (.bin .leq .none (ab 26) (.const (.int .u8 122)))),cG 28 25 27,aN 29 28,ax 29 (I 30 4),ax 29 (d8 31 (.bin .geq .none (ab 30) (.const (.int .u8 65)))),ax 29 (aN 32 31),av 32 (I 33 4),av 32 (d8 34 (.bin .leq .none (ab 33) (.const (.int .u8 90)))),ax 29 (cG 35 32 34),cC 36 29 35,aN 37 36,ax 37 (I 38 4),ax 37 (d8 39 (.bin .geq .none (ab 38) (.const (.int .u8 48)))),ax 37 (aN 40 39),av 40 (I 41 4),av 40 (d8 42 (.bin .leq .none (ab 41) (.const (.int .u8 57)))),ax 37 (cG 43 40 42),cC 44 37 43,aN 5 44] [0,3,4,5]
abbrev aim:=J [cl 2 cU] [2]
abbrev ain:=al (J [aN 45 5,cM 46 45,aN 47 46,av 47 (I 48 4),av 47 (d8 49 (.bin .neq .none (ab 48) (.const (.int .u8 45)))),cG 50 47 49,aN 51 50,av 51 (I 52 4),av 51 (d8 53 (.bin .neq .none (ab 52) (.const (.int .u8 95)))),cG 54 51 53,aN 55 54,av 55 (I 56 4),av 55 (d8 57 (.bin .neq .none (ab 56) (.const (.int .u8 46)))),cG 58 55 57] [0,3,58]) (aH 58 (al aim aR) aC)
abbrev aio:=J [I 18 3,be 19 .add 18 1,I 3 19] [0,3]
abbrev aiq:=J [cl 2 fU] [2]
def He:bs:=⟨59,[(.tmp 2)],f3 aii air (al ais (bb 0 (cg [0,3] (cb aij (bb 1 (cb aik ail ain)) aio)))) aiq aR⟩
theorem aGy:bB au (bE au x0 He []) x0=some He:=by kernel_rfl
abbrev ait:=J [cl 6 cU] [0,1,2]
abbrev aiu:=J [I 7 0,I 8 1,bv 9 .geq 7 8,aN 10 9,av 10 (I 11 0),av 10 (I 12 2),av 10 (bv 13 .leq 11 12),cG 14 10 13,aN 6 14] [6]
def Hf:bs:=⟨15,[(.tmp 6)],cb ait aiu aR⟩
theorem aGA:bB au (bE au ks Hf []) ks=some Hf:=by kernel_rfl
abbrev aiv:=J [aQ 8 0] [0,1,2,3]
abbrev aiE:=J [aQ 8 5] [8]
abbrev aiH:=al (J [I 11 0,bF 12 11,bD 13 .lss 12 2,aN 14 13,ax 14 (I 15 0),ax 14 (bF 16 15),ax 14 (bD 17 .gtr 16 32),cC 18 14 17] [0,1,2,3,18]) (aH 18 (al aiE aR) aC)
abbrev aiI:=J [aQ 9 0] [0,1,2,3,9]
abbrev aiw:=al (J [I 19 9,I 20 0,bF 21 20,bv 22 .lss 19 21] [0,1,2,3,9,22]) (aH 22 aC (bS 0))
abbrev aix:=J [I 25 0,I 26 9,bi 27 5 25 26,aY 28 5 27,cy 10 [ae,ae,ae,b3,b3],br 5 10 28] [0,1,2,3,9,10]
abbrev aiy:=J [aQ 8 9] [8]
abbrev aiz:=al (J [ai 29 0 10,am 30 29,bD 31 .lss 30 0,aN 32 31,ax 32 (ai 33 0 10),ax 32 (am 34 33),ax 32 (I 35 1),ax 32 (bv 36 .geq 34 35),cC 37 32 36] [0,1,2,3,9,10,37]) (aH 37 (al aiy aR) aC)
abbrev aiA:=J [aQ 8 13] [8]
abbrev aiB:=al (di [I 38 9,bD 39 .gtr 38 0,aN 40 39,av 40 (I 41 0),av 40 (I 42 9),av 40 (be 43 .sub 42 1),av 40 (bi 44 5 41 43),av 40 (ai 45 0 44),av 40 (am 46 45),av 40 (ai 47 0 10),av 40 (am 48 47),av 40 (bv 49 .eql 46 48),cG 50 40 49] [U,U,U,U,U,U,U,U,U,U,U,U,U] [0,1,2,3,9,10,50]) (aH 50 (al aiA aR) aC)
abbrev aiC:=J [aQ 8 10] [8]
abbrev aiD:=al (di [ai 51 1 10,am 52 51,I 53 2,bv 54 .lss 52 53,aN 55 54,ax 55 (ai 56 1 10),ax 55 (am 57 56),ax 55 (ai 58 2 10),ax 55 (am 59 58),ax 55 (bv 60 .gtr 57 59),cC 61 55 60,aN 62 61,ax 62 (ai 63 2 10),ax 62 (am 64 63),ax 62 (I 65 3),ax 62 (bv 66 .gtr 64 65),cC 67 62 66,aN 68 67,ax 68 (I 69 9),ax 68 (bD 70 .gtr 69 0),ax 68 (aN 71 70),av 71 (ai 72 1 10),av 71 (am 73 72),av 71 (I 74 0),av 71 (I 75 9),av 71 (be 76 .sub 75 1),av 71 (bi 77 5 74 76),av 71 (ai 78 2 77),av 71 (am 79 78),av 71 (bv 80 .lss 73 79),ax 68 (cG 81 71 80),cC 82 68 81] [U,U,U,U,U,U,U,U,U,U,U,U,U,U,U,U,U,U,U,U,U,U,U,U,U,U,U,U,U,U,U,U] [0,1,2,3,9,82]) (aH 82 (al aiC aR) aC)
abbrev aiF:=J [I 23 9,be 24 .add 23 1,I 9 24] [0,1,2,3,9]
abbrev aiG:=J [aQ 8 0] [8]
def G8:bs:=⟨83,[(.tmp 8)],f3 aiv aiH (al aiI (bb 0 (cg [0,1,2,3,9] (cb aiw (bb 1 (cv aix aiz aiB aiD)) aiF)))) aiG aR⟩
theorem aGs:bB au (bE au Ju G8 []) Ju=some G8:=by kernel_rfl
abbrev aiJ:=J [cu 4 9 0,cl 8 cU] [1,2,3,4]
abbrev aiQ:=J [aQ 9 0] [1,2,3,4,9]
abbrev aiU:=al (J [I 12 9,I 13 1,bv 14 .leq 12 13] [1,2,3,4,9,14]) (aH 14 aC (bS 0))
abbrev aiV:=J [aQ 10 (-1)] [1,2,3,4,9,10]
abbrev aiW:=J [aQ 11 0] [1,2,3,4,9,10,11]
abbrev aiK:=al (J [I 17 11,I 18 1,bv 19 .lss 17 18] [1,2,3,4,9,10,11,19]) (aH 19 aC (bS 2))
abbrev aiL:=J [ai 38 3 4,am 39 38,I 40 11,bi 41 5 39 40,ai 42 2 41,am 43 42,I 10 43] [1,2,3,4,9,10,11]
abbrev aiM:=al (J [ai 22 3 4,am 23 22,I 24 11,bi 25 5 23 24,ai 26 4 25,eJ 27 26,aN 28 27,av 28 (ai 29 3 4),av 28 (am 30 29),av 28 (I 31 11),av 28 (bi 32 5 30 31),av 28 (ai 33 0 32),av 28 (am 34 33),av 28 (I 35 2),av 28 (bv 36 .eql 34 35),cG 37 28 36] [1,2,3,4,9,10,11,37]) (aH 37 aiL aC)
abbrev aiN:=J [I 20 11,be 21 .add 20 1,I 11 21] [1,2,3,4,9,10,11]
abbrev aiO:=J [cl 8 fU] [8]
abbrev aiP:=al (J [I 44 10,I 45 3,bv 46 .eql 44 45] [1,3,4,9,10,46]) (aH 46 (al aiO aR) aC)
abbrev aiR:=J [I 47 10,I 2 47] [1,2,3,4,9]
abbrev aiS:=J [I 15 9,be 16 .add 15 1,I 9 16] [1,2,3,4,9]
abbrev aiT:=J [cl 8 cU] [8]
def Hg:bs:=⟨48,[(.tmp 8)],cv aiJ (al aiQ (bb 0 (cg [1,2,3,4,9] (cb aiU (bb 1 (cv aiV (al aiW (bb 2 (cg [1,2,3,4,9,10,11] (cb aiK (bb 3 aiM) aiN)))) aiP aiR)) aiS)))) aiT aR⟩
theorem aGB:bB au (bE au Jz Hg []) Jz=some Hg:=by kernel_rfl
abbrev aiX:=J [d9 4 fu] [0,1]
abbrev ai5:=J [I 10 0,I 11 1,bt 12 D9 [ab 10,ab 11,cU],I 13 0,I 14 1,bt 15 D9 [ab 13,ab 14,fU],I 5 12,I 6 15] [1,5,6]
abbrev ai7:=J [a0 16 (.buildSlice [] 4 0 []),I 7 16] [1,5,6,7]
abbrev ai8:=J [aQ 8 0] [1,5,6,7,8]
abbrev ai9:=al (J [I 17 8,I 18 1,bv 19 .lss 17 18] [1,5,6,7,8,19]) (aH 19 aC (bS 0))
abbrev aiY:=J [aQ 9 0] [1,5,6,7,8,9]
abbrev aiZ:=al (J [I 22 9,I 23 1,bv 24 .lss 22 23] [1,5,6,7,8,9,24]) (aH 24 aC (bS 2))
abbrev ai0:=al (J [I 27 8,I 28 9,bv 29 .eql 27 28,aN 30 29,ax 30 (I 31 5),ax 30 (I 32 8),ax 30 (bi 33 1 31 32),ax 30 (am 34 33),ax 30 (I 35 9),ax 30 (bi 36 1 34 35),ax 30 (am 37 36),ax 30 (bD 38 .gtr 37 14400),cC 39 30 38] [1,5,6,7,8,9,39]) (aH 39 (bS 3) aC)
abbrev ai1:=di [I 40 7,I 41 8,I 42 9,I 43 5,I 44 8,bi 45 1 43 44,am 46 45,I 47 9,bi 48 1 46 47,am 49 48,I 50 6,I 51 8,bi 52 1 50 51,am 53 52,I 54 9,bi 55 1 53 54,am 56 55,I 57 5,I 58 8,bi 59 1 57 58,am 60 59,I 61 9,bi 62 1 60 61,am 63 62,bv 64 .eql 56 63,a0 65 (.build [ae,ae,ae,b3] [(0,(1,(ab 41))),(1,(1,(ab 42))),(2,(1,(ab 49))),(3,(1,(ab 64)))]),a0 66 (.buildSlice [ae,ae,ae,b3] 4 1 [(0,(4,(ab 65)))]),hR 67 4 32 40 66,I 7 67] [U,U,U,U,U,U,U,U,U,U,U,U,U,U,U,U,U,U,U,U,U,U,U,U,U,U,U,ff,U] [1,5,6,7,8,9]
abbrev ai2:=J [I 93 7,I 94 8,I 95 9,I 96 6,I 97 8,bi 98 1 96 97,am 99 98,I 100 9,bi 101 1 99 100,am 102 101,a0 103 (.build [ae,ae,ae,b3] [(0,(1,(ab 94))),(1,(1,(ab 95))),(2,(1,(ab 102))),(3,(1,(.const (.bool true))))]),a0 104 (.buildSlice [ae,ae,ae,b3] 4 1 [(0,(4,(ab 103)))]),hR 105 4 32 93 104,I 7 105] [1,5,6,7,8,9]
abbrev ai3:=al (di [I 68 6,I 69 8,bi 70 1 68 69,am 71 70,I 72 9,bi 73 1 71 72,am 74 73,I 75 5,I 76 8,bi 77 1 75 76,am 78 77,I 79 9,bi 80 1 78 79,am 81 80,bv 82 .gtr 74 81,aN 83 82,av 83 (I 84 6),av 83 (I 85 8),av 83 (bi 86 1 84 85),av 83 (am 87 86),av 83 (I 88 9),av 83 (bi 89 1 87 88),av 83 (am 90 89),av 83 (bD 91 .leq 90 14400),cG 92 83 91] [U,U,U,U,U,U,U,U,U,U,U,U,U,U,U,U,U,U,U,U,U,U,U,U,U] [1,5,6,7,8,9,92]) (aH 92 ai2 aC)
abbrev ai4:=J [I 25 9,be 26 .add 25 1,I 9 26] [1,5,6,7,8,9]
abbrev ai6:=J [I 20 8,be 21 .add 20 1,I 8 21] [1,5,6,7,8]
abbrev Q2:a6:=ba 41 (J [I 106 7,I 4 106] [4])
theorem aDU(P:Program)(Q:Exit->aI->Mem->Prop)(s:aI)(M:Mem):dn P Q2 Q s M=@nn P [I 106 7,I 4 106] M ⟨s,fun aO ah=>Q .normal (g7 aO [4]) ah⟩:=rfl
def G_:bs:=⟨107,[(.tmp 4)],hM aiX ai5 ai7 (al ai8 (bb 0 (cg [1,5,6,7,8] (cb ai9 (bb 1 (al aiY (bb 2 (cg [1,5,6,7,8,9] (cb aiZ (bb 3 (cb ai0 ai1 ai3)) ai4))))) ai6)))) Q2 aR⟩
theorem aGu:bB au (bE au Jw G_ []) Jw=some G_:=by kernel_rfl
abbrev anp:=J [d9 6 fu] [0,1,2]
abbrev anv:=J [a0 16 (.rf [] 0 []),I 7 16] [0,1,2,7]
abbrev anE:=J [aQ 8 0] [0,1,2,7,8]
abbrev anM:=al (J [I 17 8,I 18 1,bv 19 .lss 17 18] [0,1,2,7,8,19]) (aH 19 aC (bS 0))
abbrev anQ:=J [a0 22 (.buildSlice [] 1 0 []),I 9 22] [0,1,2,7,8,9]
abbrev anq:=J [aQ 10 0] [0,1,2,7,8,9,10]
abbrev anr:=al (J [I 23 10,I 24 1,bv 25 .lss 23 24] [0,1,2,7,8,9,10,25]) (aH 25 aC (bS 2))
abbrev ans:=J [I 28 9,a0 29 (.buildSlice [ae] 1 1 [(0,(1,(.const (.int .i64 1099511627776))))]),hR 30 1 8 28 29,I 9 30] [0,1,2,7,8,9,10]
abbrev ant:=J [I 26 10,be 27 .add 26 1,I 10 27] [0,1,2,7,8,9,10]
abbrev anu:=J [I 31 7,I 32 9,a0 33 (.rf [c1] 1 [(0,(1,(ab 32)))]),hR 34 1 24 31 33,I 7 34] [0,1,2,7,8]
abbrev anw:=J [I 20 8,be 21 .add 20 1,I 8 21] [0,1,2,7,8]
abbrev anx:=J [aQ 11 0] [0,1,2,7,11]
abbrev anz:=al (J [I 35 11,I 36 0,bF 37 36,bv 38 .lss 35 37] [0,1,2,7,11,38]) (aH 38 aC (bS 4))
abbrev anA:=J [I 41 0,I 42 11,bi 43 4 41 42,aY 44 4 43,cy 12 [ae,ae,ae,b3],br 4 12 44] [0,1,2,7,11,12]
abbrev anB:=di [I 51 7,ai 52 0 12,am 53 52,bi 54 1 51 53,am 55 54,ai 56 1 12,am 57 56,I 58 7,ai 59 0 12,am 60 59,bi 61 1 58 60,am 62 61,ai 63 1 12,am 64 63,bi 65 1 62 64,am 66 65,ai 67 2 12,am 68 67,a0 69 (.nP false (ab 66) (ab 68)),bi 70 1 55 57,br 1 70 69] [U,U,U,U,U,U,U,U,U,U,U,U,U,U,U,U,U,U,U,U,ff] [0,1,2,7,11]
abbrev anC:=al (J [ai 45 3 12,eJ 46 45,aN 47 46,ax 47 (aN 48 2),ax 47 (cM 49 48),cC 50 47 49] [0,1,2,7,11,12,50]) (aH 50 anB aC)
abbrev anD:=J [I 39 11,be 40 .add 39 1,I 11 40] [0,1,2,7,11]
abbrev anF:=J [aQ 13 0] [1,7,13]
abbrev anG:=al (J [I 71 13,I 72 1,bv 73 .lss 71 72] [1,7,13,73]) (aH 73 aC (bS 6))
abbrev anH:=J [aQ 14 0] [1,7,13,14]
abbrev anI:=al (J [I 76 14,I 77 1,bv 78 .lss 76 77] [1,7,13,14,78]) (aH 78 aC (bS 8))
abbrev anJ:=J [aQ 15 0] [1,7,13,14,15]
abbrev anK:=al (J [I 81 15,I 82 1,bv 83 .lss 81 82] [1,7,13,14,15,83]) (aH 83 aC (bS 10))
abbrev anL:=di [I 86 7,I 87 14,bi 88 1 86 87,am 89 88,I 90 15,I 91 7,I 92 14,bi 93 1 91 92,am 94 93,I 95 15,bi 96 1 94 95,am 97 96,I 98 7,I 99 14,bi 100 1 98 99,am 101 100,I 102 13,bi 103 1 101 102,am 104 103,I 105 7,I 106 13,bi 107 1 105 106,am 108 107,I 109 15,bi 110 1 108 109,am 111 110,b0 112 .add 104 111,a0 113 (.nP false (ab 97) (ab 112)),bi 114 1 89 90,br 1 114 113] [U,U,U,U,U,U,U,U,U,U,U,U,U,U,U,U,U,U,U,U,U,U,U,U,U,U,U,U,U,ff] [1,7,13,14,15]
abbrev anN:=J [I 84 15,be 85 .add 84 1,I 15 85] [1,7,13,14,15]
abbrev anO:=J [I 79 14,be 80 .add 79 1,I 14 80] [1,7,13,14]
abbrev anP:=J [I 74 13,be 75 .add 74 1,I 13 75] [1,7,13]
abbrev anR:a6:=ba 94 (J [I 115 7,I 6 115] [6])
def Hb:bs:=⟨116,[(.tmp 6)],uh anp anv (al anE (bb 0 (cg [0,1,2,7,8] (cb anM (bb 1 (cb anQ (al anq (bb 2 (cg [0,1,2,7,8,9,10] (cb anr (bb 3 ans) ant)))) anu)) anw)))) (al anx (bb 4 (cg [0,1,2,7,11] (cb anz (bb 5 (al anA anC)) anD)))) (al anF (bb 6 (cg [1,7,13] (cb anG (bb 7 (al anH (bb 8 (cg [1,7,13,14] (cb anI (bb 9 (al anJ (bb 10 (cg [1,7,13,14,15] (cb anK (bb 11 anL) anN))))) anO))))) anP)))) anR aR⟩
theorem aGw:bB au (bE au D9 Hb [(1,[5000]),(10,[5002])]) D9=some Hb:=by kernel_rfl
end Go.aL.C
namespace Go.aL.C
open Go.aL
abbrev au9:=J [cu 1 9 0,aQ 2 0,aQ 3 0,aQ 4 0] [1]
abbrev avg:=J [ai 13 0 1,am 14 13,bt 15 Jt [ab 14],I 12 15,c_ 16 12 0,c_ 17 12 1,I 5 16,I 6 17] [1,5,6]
abbrev avh:=J [ai 19 1 1,am 20 19,bt 21 I7 [ab 20],I 18 21,c_ 22 18 0,c_ 23 18 1,I 7 22,I 8 23] [1,5,6,7,8]
abbrev avi:=J [I 24 5,I 25 6,bt 26 j0 [bX 0,ab 24,ab 25],I 27 7,I 28 8,bt 29 j0 [bX 1,ab 27,ab 28],a0 30 (.buildSlice [ae,ae,ae,ae,ae,ae] 3 2 [(0,(3,(ab 26))),(3,(3,(ab 29)))]),bt 31 Aa [ab 30],cy 9 [ae,ae,ae],br 3 9 31] [1,9]
abbrev avj:=J [aY 35 9 1,bt 36 IR [ab 35],br 3 9 36] [1,9]
abbrev au_:=al (J [ai 32 2 9,am 33 32,bD 34 .eql 33 0] [1,9,34]) (aH 34 avj aC)
abbrev ava:=J [aY 40 9 1,bt 41 IP [ab 40],br 3 9 41] [1,9]
abbrev avb:=al (J [ai 37 2 9,am 38 37,bD 39 .eql 38 0] [1,9,39]) (aH 39 ava aC)
abbrev avc:=J [ai 46 5 1,aY 47 4 46,bt 48 Ab [ab 47],I 45 48,c_ 49 45 0,c_ 50 45 1,I 10 49,I 11 50] [1,9,10,11]
abbrev avd:=J [aY 51 9 1,bt 52 IQ [ab 51],I 53 10,I 54 11,bt 55 j0 [bX 5,ab 53,ab 54],a0 56 (.buildSlice [ae,ae,ae,ae,ae,ae] 3 2 [(0,(3,(ab 52))),(3,(3,(ab 55)))]),bt 57 Aa [ab 56],br 3 9 57] [9]
abbrev ave:=al (J [ai 42 2 9,am 43 42,bD 44 .eql 43 0] [1,9,44]) (aH 44 (al avc avd) aC)
abbrev avf:=di [ai 58 0 9,am 59 58,ai 60 1 9,am 61 60,ai 62 2 9,am 63 62,I 2 59,I 3 61,I 4 63] [U,U,U,U,U,U,U,U,U] [2,3,4]
def Gx:bs:=⟨64,[(.tmp 2),(.tmp 3),(.tmp 4)],al au9 (iL avg avh avi au_ avb ave avf aR)⟩
theorem aFN:bB au (bE au z_ Gx []) z_=some Gx:=by kernel_rfl
abbrev azM:=J [aQ 2 0,aQ 3 0] [0]
abbrev azV:=J [aQ 2 0,aQ 3 5] [2,3]
abbrev az0:=al (J [I 7 0,bF 8 7,bD 9 .gtr 8 64] [0,9]) (aH 9 (al azV aR) aC)
abbrev az1:=J [a0 10 (.makeMap none),I 4 10] [0,4]
abbrev azN:=J [I 11 0,bF 12 11,aQ 13 0] [4,11,12,13]
abbrev azO:=J [b0 14 .lss 13 12] [4,11,12,13,14]
abbrev azP:=J [I 15 13,bi 16 4 11 13,aY 17 4 16,cy 6 [.str [],ae,b3,ae],I 5 15,br 4 6 17] [4,5,6,11,12,13]
abbrev azQ:=J [I 23 5,I 2 23,aQ 3 12] [2,3]
abbrev azR:=J [I 29 5,I 2 29,aQ 3 6] [2,3]
abbrev azS:=J [I 49 5,I 2 49,aQ 3 2] [2,3]
abbrev azT:=al (J [ai 31 1 6,am 32 31,bD 33 .lss 32 0,aN 34 33,ax 34 (ai 35 1 6),ax 34 (am 36 35),ax 34 (bD 37 .geq 36 16),cC 38 34 37,aN 39 38,ax 39 (ai 40 3 6),ax 39 (am 41 40),ax 39 (bD 42 .lss 41 0),cC 43 39 42,aN 44 43,ax 44 (ai 45 3 6),ax 44 (am 46 45),ax 44 (bD 47 .gtr 46 3600),cC 48 44 47,aN 30 48] [4,5,6,11,12,13,30]) (aH 30 (al azS aR) aC)
abbrev azU:=al (J [I 25 4,ai 26 0 6,am 27 26,d8 28 (.lookup .str [b3] false false (ab 25) (ab 27)),aN 24 28] [4,5,6,11,12,13,24]) (aH 24 (al azR aR) azT)
abbrev azW:=al (J [ai 19 0 6,am 20 19,cW 21 xY [ab 20],cM 22 21,aN 18 22] [4,5,6,11,12,13,18]) (aH 18 (al azQ aR) azU)
abbrev azX:=J [I 50 4,ai 51 0 6,am 52 51,lP (.mapUpdate .str (ab 50) (ab 52) fU)] [4,11,12,13]
abbrev azY:=J [be 53 .add 13 1,I 13 53] [4,11,12,13]
abbrev azZ:=J [aQ 2 0,aQ 3 0] [2,3]
def G7:bs:=⟨54,[(.tmp 2),(.tmp 3)],hM azM az0 az1 (al azN (bb 0 (cg [4,11,12,13] (cv azO (aH 14 aC (bS 0)) (bb 1 (cb azP (bb 2 azW) azX)) azY)))) azZ aR⟩
theorem aGr:bB au (bE au Jt G7 []) Jt=some G7:=by kernel_rfl
abbrev az2:=J [aQ 2 0,aQ 3 0] [0]
abbrev aAa:=J [aQ 2 0,aQ 3 5] [2,3]
abbrev aAf:=al (J [I 7 0,bF 8 7,bD 9 .gtr 8 64] [0,9]) (aH 9 (al aAa aR) aC)
abbrev aAg:=J [a0 10 (.makeMap none),I 4 10] [0,4]
abbrev az3:=J [I 11 0,bF 12 11,aQ 13 0] [4,11,12,13]
abbrev az4:=J [b0 14 .lss 13 12] [4,11,12,13,14]
abbrev az5:=J [I 15 13,bi 16 3 11 13,aY 17 3 16,cy 6 [.str [],ae,b3],I 5 15,br 3 6 17] [4,5,6,11,12,13]
abbrev az6:=J [I 22 5,I 2 22,aQ 3 12] [2,3]
abbrev az7:=al (J [ai 18 0 6,am 19 18,cW 20 xY [ab 19],cM 21 20] [4,5,6,11,12,13,21]) (aH 21 (al az6 aR) aC)
abbrev az8:=J [I 27 5,I 2 27,aQ 3 6] [2,3]
abbrev az9:=al (J [I 23 4,ai 24 0 6,am 25 24,d8 26 (.lookup .str [b3] false false (ab 23) (ab 25))] [4,5,6,11,12,13,26]) (aH 26 (al az8 aR) aC)
abbrev az_:=J [I 32 5,I 2 32,aQ 3 2] [2,3]
abbrev aAb:=al (J [ai 28 1 6,am 29 28,cW 30 I8 [ab 29],cM 31 30] [4,5,6,11,12,13,31]) (aH 31 (al az_ aR) aC)
abbrev aAc:=J [I 33 4,ai 34 0 6,am 35 34,lP (.mapUpdate .str (ab 33) (ab 35) fU)] [4,11,12,13]
abbrev aAd:=J [be 36 .add 13 1,I 13 36] [4,11,12,13]
abbrev aAe:=J [aQ 2 0,aQ 3 0] [2,3]
def GH:bs:=⟨37,[(.tmp 2),(.tmp 3)],hM az2 aAf aAg (al az3 (bb 0 (cg [4,11,12,13] (cv az4 (aH 14 aC (bS 0)) (bb 1 (f3 az5 az7 az9 aAb aAc)) aAd)))) aAe aR⟩
theorem aF3:bB au (bE au I7 GH []) I7=some GH:=by kernel_rfl
abbrev aAh:=J [cy 2 [ae,ae,ae]] [0,2]
abbrev aAm:=J [I 5 0,bF 6 5,aQ 7 0] [2,5,6,7]
abbrev aAn:=J [b0 8 .lss 7 6] [2,5,6,7,8]
abbrev aAo:=J [bi 9 3 5 7,aY 10 3 9,cy 4 [ae,ae,ae],br 3 4 10] [2,4,5,6,7]
abbrev aAi:=J [aY 14 3 4,br 3 2 14] [2]
abbrev aAj:=al (J [ai 11 2 4,am 12 11,bD 13 .neq 12 0] [2,4,5,6,7,13]) (aH 13 (al aAi aR) aC)
abbrev aAk:=J [be 15 .add 7 1,I 7 15] [2,5,6,7]
abbrev aAl:=J [a0 16 (.build [ae,ae,ae] []),br 3 2 16] [2]
def GC:bs:=⟨17,[(.cell 2 3 true)],cv aAh (al aAm (bb 0 (cg [2,5,6,7] (cv aAn (aH 8 aC (bS 0)) (bb 1 (al aAo aAj)) aAk)))) aAl aR⟩
theorem aFS:bB au (bE au Aa GC []) Aa=some GC:=by kernel_rfl
abbrev aAz:=J [cy 6 [ae,ae,ae]] [0,1,2,6]
abbrev aAA:=J [I 7 0,I 8 1,I 9 2,a0 10 (.build [ae,ae,ae] [(0,(1,(ab 7))),(1,(1,(ab 8))),(2,(1,(ab 9)))]),br 3 6 10] [6]
def GF:bs:=⟨11,[(.cell 6 3 true)],cb aAz aAA aR⟩
theorem aF1:bB au (bE au j0 GF []) j0=some GF:=by kernel_rfl
abbrev aAB:=J [cu 1 9 0,cy 2 [ae,ae,ae]] [1,2]
abbrev aAK:=J [bt 13 j0 [bX 2,bX 0,bX 5],br 3 2 13] [2]
abbrev aAV:=al (J [ai 9 2 1,am 10 9,bF 11 10,bD 12 .gtr 11 1024] [1,2,12]) (aH 12 (al aAK aR) aC)
abbrev aAY:=J [a0 14 (.makeMap none),I 3 14] [1,2,3]
abbrev aAC:=J [ai 15 2 1,am 16 15,bF 17 16,aQ 18 0] [1,2,3,16,17,18]
abbrev aAD:=J [b0 19 .lss 18 17] [1,2,3,16,17,18,19]
abbrev aAE:=J [I 20 18,bi 21 8 16 18,aY 22 8 21,cy 5 [ae,ae,ae,.str [],ae,b3,b3,c1],I 4 20,br 8 5 22] [1,2,3,4,5,16,17,18]
abbrev aAF:=J [I 28 4,bt 29 j0 [bX 2,ab 28,bX 12],br 3 2 29] [2]
abbrev aAG:=J [I 39 4,bt 40 j0 [bX 2,ab 39,bX 2],br 3 2 40] [2]
abbrev aAH:=J [I 50 4,bt 51 j0 [bX 2,ab 50,bX 11],br 3 2 51] [2]
abbrev aAI:=J [I 64 4,bt 65 j0 [bX 2,ab 64,bX 9],br 3 2 65] [2]
abbrev aAJ:=al (J [ai 53 4 5,am 54 53,bD 55 .lss 54 0,aN 56 55,ax 56 (ai 57 4 5),ax 56 (am 58 57),ax 56 (ai 59 1 1),ax 56 (am 60 59),ax 56 (bF 61 60),ax 56 (bv 62 .geq 58 61),cC 63 56 62,aN 52 63] [1,2,3,4,5,16,17,18,52]) (aH 52 (al aAI aR) aC)
abbrev aAL:=al (J [ai 42 1 5,am 43 42,bD 44 .lss 43 0,aN 45 44,ax 45 (ai 46 1 5),ax 45 (am 47 46),ax 45 (bD 48 .gtr 47 36524),cC 49 45 48,aN 41 49] [1,2,3,4,5,16,17,18,41]) (aH 41 (al aAH aR) aAJ)
abbrev aAM:=al (J [ai 31 0 5,am 32 31,bD 33 .lss 32 (-1),aN 34 33,ax 34 (ai 35 2 5),ax 34 (am 36 35),ax 34 (bD 37 .lss 36 0),cC 38 34 37,aN 30 38] [1,2,3,4,5,16,17,18,30]) (aH 30 (al aAG aR) aAL)
abbrev aAN:=al (J [ai 24 3 5,am 25 24,cW 26 xY [ab 25],cM 27 26,aN 23 27] [1,2,3,4,5,16,17,18,23]) (aH 23 (al aAF aR) aAM)
abbrev aAO:=J [ai 67 7 5,am 68 67,ai 69 0 1,am 70 69,bF 71 70,bt 72 If [ab 68,ab 71,bX 0,bX 3155932800],I 66 72,c_ 73 66 0,c_ 74 66 1,I 6 73,I 7 74] [1,2,3,4,5,7,16,17,18]
abbrev aAP:=J [I 77 4,I 78 7,bt 79 j0 [bX 2,ab 77,ab 78],br 3 2 79] [2]
abbrev aAQ:=al (J [I 75 7,bD 76 .neq 75 0] [1,2,3,4,5,7,16,17,18,76]) (aH 76 (al aAP aR) aC)
abbrev aAR:=J [ai 80 3 5,am 81 80,ai 82 1 5,am 83 82,ai 84 2 5,am 85 84,a0 86 (.build [.str [],ae,ae] [(0,(1,(ab 81))),(1,(1,(ab 83))),(2,(1,(ab 85)))]),cy 8 [.str [],ae,ae],br 3 8 86] [1,2,3,4,8,16,17,18]
abbrev aAS:=J [I 90 4,bt 91 j0 [bX 2,ab 90,bX 6],br 3 2 91] [2]
abbrev aAT:=al (J [I 87 3,aY 88 3 8,d8 89 (.lookup (.cells [.str,.int,.int]) [b3] false false (ab 87) (ab 88))] [1,2,3,4,8,16,17,18,89]) (aH 89 (al aAS aR) aC)
abbrev aAU:=J [I 92 3,aY 93 3 8,lP (.mapUpdate (.cells [.str,.int,.int]) (ab 92) (ab 93) fU)] [1,2,3,16,17,18]
abbrev aAW:=J [be 94 .add 18 1,I 18 94] [1,2,3,16,17,18]
abbrev aAX:=J [a0 95 (.build [ae,ae,ae] []),br 3 2 95] [2]
def GB:bs:=⟨96,[(.cell 2 3 true)],hM aAB aAV aAY (al aAC (bb 0 (cg [1,2,3,16,17,18] (cv aAD (aH 19 aC (bS 0)) (bb 1 (hM aAE (bb 2 aAN) (al aAO aAQ) aAR aAT aAU)) aAW)))) aAX aR⟩
theorem aFR:bB au (bE au IR GB []) IR=some GB:=by kernel_rfl
abbrev aAZ:=J [cu 1 9 0,cy 2 [ae,ae,ae]] [1,2]
abbrev aA9:=J [bt 17 j0 [bX 3,bX 0,bX 5],br 3 2 17] [2]
abbrev aBk:=al (J [ai 13 3 1,am 14 13,bF 15 14,bD 16 .gtr 15 1024] [1,2,16]) (aH 16 (al aA9 aR) aC)
abbrev aBn:=J [a0 18 (.makeMap none),a0 19 (.makeMap none),I 3 18,I 4 19] [1,2,3,4]
abbrev aA0:=J [a0 20 (.makeMap none),I 5 20] [1,2,3,4,5]
abbrev aA1:=J [ai 21 3 1,am 22 21,bF 23 22,aQ 24 0] [1,2,3,4,5,22,23,24]
abbrev aA2:=J [b0 25 .lss 24 23] [1,2,3,4,5,22,23,24,25]
abbrev aA3:=J [I 26 24,bi 27 5 22 24,aY 28 5 27,cy 7 [ae,ae,ae,ae,b3],I 6 26,br 5 7 28] [1,2,3,4,5,6,7,22,23,24]
abbrev aA4:=J [I 52 6,bt 53 j0 [bX 3,ab 52,bX 9],br 3 2 53] [2]
abbrev aA5:=al (J [ai 29 0 7,am 30 29,ai 31 2 1,am 32 31,bF 33 32,cW 34 uc [ab 30,ab 33],cM 35 34,aN 36 35,ax 36 (ai 37 2 7),ax 36 (am 38 37),ax 36 (ai 39 2 1),ax 36 (am 40 39),ax 36 (bF 41 40),ax 36 (cW 42 uc [ab 38,ab 41]),ax 36 (cM 43 42),cC 44 36 43,aN 45 44,ax 45 (ai 46 0 7),ax 45 (am 47 46),ax 45 (ai 48 2 7),ax 45 (am 49 48),ax 45 (bv 50 .eql 47 49),cC 51 45 50] [1,2,3,4,5,6,7,22,23,24,51]) (aH 51 (al aA4 aR) aC)
abbrev aA6:=di [ai 54 2 1,am 55 54,ai 56 0 7,am 57 56,bi 58 8 55 57,ai 59 7 58,am 60 59,ai 61 2 1,am 62 61,ai 63 2 7,am 64 63,bi 65 8 62 64,ai 66 7 65,am 67 66,I 8 60,I 9 67] [U,U,U,U,U,U,U,U,U,U,U,U,U,U,U,U] [1,2,3,4,5,6,7,8,9,22,23,24]
abbrev aA7:=J [I 82 6,bt 83 j0 [bX 3,ab 82,bX 9],br 3 2 83] [2]
abbrev aA8:=al (J [ai 68 1 7,am 69 68,I 70 8,bF 71 70,cW 72 uc [ab 69,ab 71],cM 73 72,aN 74 73,ax 74 (ai 75 3 7),ax 74 (am 76 75),ax 74 (I 77 9),ax 74 (bF 78 77),ax 74 (cW 79 uc [ab 76,ab 78]),ax 74 (cM 80 79),cC 81 74 80] [1,2,3,4,5,6,7,8,9,22,23,24,81]) (aH 81 (al aA7 aR) aC)
abbrev aA_:=J [ai 84 0 7,am 85 84,ai 86 1 7,am 87 86,ai 88 2 7,am 89 88,ai 90 3 7,am 91 90,a0 92 (.build [ae,ae,ae,ae] [(0,(1,(ab 85))),(1,(1,(ab 87))),(2,(1,(ab 89))),(3,(1,(ab 91)))]),cy 10 [ae,ae,ae,ae],br 4 10 92] [1,2,3,4,5,6,7,8,9,10,22,23,24]
abbrev aBa:=J [I 94 3,ai 95 0 7,am 96 95,a0 97 (.lookup .int [ae] false true (ab 94) (ab 96)),I 93 97,c_ 98 93 0,pJ 99 93 1,I 11 98,aN 12 99] [1,2,3,4,5,6,7,8,9,10,12,22,23,24]
abbrev aBb:=J [I 114 6,bt 115 j0 [bX 3,ab 114,bX 13],br 3 2 115] [2]
abbrev aBc:=J [I 149 6,bt 150 j0 [bX 3,ab 149,bX 19],br 3 2 150] [2]
abbrev aBd:=J [I 155 6,bt 156 j0 [bX 3,ab 155,bX 6],br 3 2 156] [2]
abbrev aBe:=al (J [I 152 5,aY 153 4 10,d8 154 (.lookup (.cells [.int,.int,.int,.int]) [b3] false false (ab 152) (ab 153)),aN 151 154] [1,2,3,4,5,6,7,10,22,23,24,151]) (aH 151 (al aBd aR) aC)
abbrev aBf:=al (J [ai 117 4 7,eJ 118 117,aN 119 118,av 119 (ai 120 1 7),av 119 (am 121 120),av 119 (be 122 .add 121 1),av 119 (I 123 8),av 119 (bF 124 123),av 119 (bv 125 .neq 122 124),av 119 (aN 126 125),ax 126 (ai 127 3 7),ax 126 (am 128 127),ax 126 (bD 129 .neq 128 0),av 119 (cC 130 126 129),av 119 (aN 131 130),ax 131 (aN 132 12),av 119 (cC 133 131 132),av 119 (aN 134 133),ax 134 (I 135 4),ax 134 (ai 136 2 7),ax 134 (am 137 136),ax 134 (d8 138 (.lookup .int [b3] false false (ab 135) (ab 137))),av 119 (cC 139 134 138),av 119 (aN 140 139),ax 140 (I 141 3),ax 140 (ai 142 2 7),ax 140 (am 143 142),ax 140 (ai 144 0 7),ax 140 (am 145 144),ax 140 (cW 146 IZ [ab 141,ab 143,ab 145]),av 119 (cC 147 140 146),cG 148 119 147,aN 116 148] [1,2,3,4,5,6,7,10,22,23,24,116]) (aH 116 (al aBc aR) aBe)
abbrev aBg:=al (di [I 101 8,ai 102 1 7,am 103 102,bi 104 5 101 103,ai 105 0 104,am 106 105,I 107 9,ai 108 3 7,am 109 108,bi 110 5 107 109,ai 111 0 110,am 112 111,bv 113 .neq 106 112,aN 100 113] [U,U,U,U,U,U,U,U,U,U,U,U,U,U] [1,2,3,4,5,6,7,8,10,12,22,23,24,100]) (aH 100 (al aBb aR) aBf)
abbrev aBh:=J [I 157 5,aY 158 4 10,lP (.mapUpdate (.cells [.int,.int,.int,.int]) (ab 157) (ab 158) fU)] [1,2,3,4,5,7,22,23,24]
abbrev aBi:a6:=.float [I 161 3,ai 162 0 7,am 163 162,I 164 4,ai 165 2 7,am 166 165,ai 167 2 7,am 168 167,lP (.mapUpdate .int (ab 161) (ab 163) (ab 168)),lP (.mapUpdate .int (ab 164) (ab 166) fU)] [none,none,none,none,none,none,none,none,(some [3,4,5]),(some [])] [1,2,3,4,5,22,23,24]
abbrev aBj:=al (J [ai 159 4 7,eJ 160 159] [1,2,3,4,5,7,22,23,24,160]) (aH 160 aBi aC)
abbrev aBl:=J [be 169 .add 24 1,I 24 169] [1,2,3,4,5,22,23,24]
abbrev aBm:=J [a0 170 (.build [ae,ae,ae] []),br 3 2 170] [2]
def Gz:bs:=⟨171,[(.cell 2 3 true)],uh aAZ aBk aBn aA0 (al aA1 (bb 0 (cg [1,2,3,4,5,22,23,24] (cv aA2 (aH 25 aC (bS 0)) (bb 1 (al aA3 (iL aA5 aA6 aA8 aA_ aBa (bb 2 aBg) aBh aBj))) aBl)))) aBm aR⟩
theorem aFP:bB au (bE au IP Gz []) IP=some Gz:=by kernel_rfl
abbrev aBo:=J [cu 1 9 0,cy 2 [ae,ae,ae]] [1,2]
abbrev aBx:=J [a0 7 (.makeMap none),I 3 7] [1,2,3]
abbrev aBD:=J [ai 8 4 1,am 9 8,bF 10 9,aQ 11 0] [1,2,3,9,10,11]
abbrev aBE:=J [b0 12 .lss 11 10] [1,2,3,9,10,11,12]
abbrev aBp:=J [I 13 11,bi 14 4 9 11,aY 15 4 14,cy 5 [ae,ae,ae,b3],I 4 13,br 4 5 15] [1,2,3,4,5,9,10,11]
abbrev aBq:=J [ai 16 0 5,am 17 16,ai 18 1 5,am 19 18,ai 20 3 5,eJ 21 20,a0 22 (.build [ae,ae,ae,b3] [(0,(1,(ab 17))),(1,(1,(ab 19))),(3,(1,(ab 21)))]),cy 6 [ae,ae,ae,b3],br 4 6 22] [1,2,3,4,5,6,9,10,11]
abbrev aBr:=J [I 47 4,bt 48 j0 [bX 4,ab 47,bX 9],br 3 2 48] [2]
abbrev aBs:=J [I 58 4,bt 59 j0 [bX 4,ab 58,bX 2],br 3 2 59] [2]
abbrev aBt:=J [I 64 4,bt 65 j0 [bX 4,ab 64,bX 6],br 3 2 65] [2]
abbrev aBu:=al (J [I 61 3,aY 62 4 6,d8 63 (.lookup (.cells [.int,.int,.int,.bool]) [b3] false false (ab 61) (ab 62)),aN 60 63] [1,2,3,4,6,9,10,11,60]) (aH 60 (al aBt aR) aC)
abbrev aBv:=al (J [ai 50 2 5,am 51 50,bD 52 .lss 51 1,aN 53 52,ax 53 (ai 54 2 5),ax 53 (am 55 54),ax 53 (bD 56 .gtr 55 14400),cC 57 53 56,aN 49 57] [1,2,3,4,6,9,10,11,49]) (aH 49 (al aBs aR) aBu)
abbrev aBw:=al (J [ai 24 0 5,am 25 24,ai 26 0 1,am 27 26,bF 28 27,cW 29 uc [ab 25,ab 28],cM 30 29,aN 31 30,ax 31 (ai 32 1 5),ax 31 (am 33 32),ax 31 (ai 34 0 1),ax 31 (am 35 34),ax 31 (bF 36 35),ax 31 (cW 37 uc [ab 33,ab 36]),ax 31 (cM 38 37),cC 39 31 38,aN 40 39,ax 40 (ai 41 0 5),ax 40 (am 42 41),ax 40 (ai 43 1 5),ax 40 (am 44 43),ax 40 (bv 45 .eql 42 44),cC 46 40 45,aN 23 46] [1,2,3,4,5,6,9,10,11,23]) (aH 23 (al aBr aR) aBv)
abbrev aBy:=J [I 66 3,aY 67 4 6,lP (.mapUpdate (.cells [.int,.int,.int,.bool]) (ab 66) (ab 67) fU)] [1,2,3,9,10,11]
abbrev aBz:=J [be 68 .add 11 1,I 11 68] [1,2,3,9,10,11]
abbrev aBA:=J [bt 76 j0 [bX 4,bX 0,bX 18],br 3 2 76] [2]
abbrev aBB:=al (J [ai 69 4 1,am 70 69,ai 71 0 1,am 72 71,bF 73 72,cW 74 Iz [ab 70,ab 73],cM 75 74] [2,75]) (aH 75 (al aBA aR) aC)
abbrev aBC:=J [a0 77 (.build [ae,ae,ae] []),br 3 2 77] [2]
def GA:bs:=⟨78,[(.cell 2 3 true)],hM aBo aBx (al aBD (bb 0 (cg [1,2,3,9,10,11] (cv aBE (aH 12 aC (bS 0)) (bb 1 (cv aBp aBq (bb 2 aBw) aBy)) aBz)))) aBB aBC aR⟩
theorem aFQ:bB au (bE au IQ GA []) IQ=some GA:=by kernel_rfl
abbrev aB4:=J [cl 2 cU] [0]
abbrev aCa:=J [aQ 3 0] [0,3]
abbrev aCd:=al (J [I 5 3,I 6 0,a0 7 (.nJ (ab 6)),bv 8 .lss 5 7] [0,3,8]) (aH 8 aC (bS 0))
abbrev aCe:=J [I 11 0,I 12 3,a0 13 (.pD (ab 11) (ab 12)),I 4 13] [0,3,4]
abbrev aCf:=J [I 27 4,d8 28 (.bin .leq .none (.const (.int .u8 48)) (ab 27)),aN 29 28,av 29 (I 30 4),av 29 (d8 31 (.bin .leq .none (ab 30) (.const (.int .u8 57)))),cG 32 29 31,aN 14 32] [0,3,4,14]
abbrev aB5:=al (J [I 21 4,d8 22 (.bin .leq .none (.const (.int .u8 65)) (ab 21)),aN 23 22,av 23 (I 24 4),av 23 (d8 25 (.bin .leq .none (ab 24) (.const (.int .u8 90)))),cG 26 23 25,aN 14 26] [0,3,4,14]) (aH 14 aC aCf)
abbrev aB6:=al (J [I 15 4,d8 16 (.bin .leq .none (.const (.int .u8 97)) (ab 15)),aN 17 16,av 17 (I 18 4),av 17 (d8 19 (.bin .leq .none (ab 18) (.const (.int .u8 122)))),cG 20 17 19,aN 14 20] [0,3,4,14]) (aH 14 aC aB5)
abbrev aB7:=J [I 38 4,d8 39 (.bin .eql .none (ab 38) (.const (.int .u8 46))),aN 33 39] [0,3,33]
abbrev aB8:=al (J [I 36 4,d8 37 (.bin .eql .none (ab 36) (.const (.int .u8 95))),aN 33 37] [0,3,4,33]) (aH 33 aC aB7)
abbrev aB9:=al (J [I 34 4,d8 35 (.bin .eql .none (ab 34) (.const (.int .u8 45))),aN 33 35] [0,3,4,33]) (aH 33 aC aB8)
abbrev aB_:=J [cl 2 cU] [2]
abbrev aCb:=J [I 9 3,be 10 .add 9 1,I 3 10] [0,3]
abbrev aCc:=J [I 40 0,a0 41 (.nJ (ab 40)),bD 42 .gtr 41 0,aN 43 42,av 43 (I 44 0),av 43 (a0 45 (.nJ (ab 44))),av 43 (bD 46 .leq 45 32),cG 47 43 46,aN 2 47] [2]
def B_:bs:=⟨48,[(.tmp 2)],cv aB4 (al aCa (bb 0 (cg [0,3] (cb aCd (bb 1 (al aCe (bb 2 (al aB6 (aH 14 aC (al aB9 (aH 33 aC (al aB_ aR)))))))) aCb)))) aCc aR⟩
theorem S4:bB au (bE au xY B_ []) xY=some B_:=by kernel_rfl
abbrev ag4:=J [cl 2 cU] [0]
abbrev ag5:=J [I 3 0,bD 4 .geq 3 0,aN 5 4,av 5 (I 6 0),av 5 (bD 7 .lss 6 8),cG 8 5 7,aN 2 8] [2]
def GI:bs:=⟨9,[(.tmp 2)],cb ag4 ag5 aR⟩
theorem aF4:bB au (bE au I8 GI []) I8=some GI:=by kernel_rfl
abbrev ag6:=J [aQ 8 0,aQ 9 0] [0,1,2,3]
abbrev ahc:=J [aQ 8 0,aQ 9 5] [8,9]
abbrev ahe:=al (J [I 12 0,bF 13 12,bD 14 .lss 13 2,aN 15 14,ax 15 (I 16 0),ax 15 (bF 17 16),ax 15 (bD 18 .gtr 17 32),cC 19 15 18] [0,1,2,3,19]) (aH 19 (al ahc aR) aC)
abbrev ahf:=J [I 20 0,bF 21 20,aQ 22 0] [0,1,2,3,21,22]
abbrev ag7:=J [b0 23 .lss 22 21] [0,1,2,3,21,22,23]
abbrev ag8:=J [I 24 22,I 10 24] [0,1,2,3,10,21,22]
abbrev ag9:=J [I 25 0,I 26 10,I 27 1,I 28 2,I 29 3,bt 30 Ig [ab 25,ab 26,ab 27,ab 28,ab 29],I 11 30] [0,1,2,3,10,11,21,22]
abbrev ag_:=J [I 33 10,I 34 11,I 8 33,I 9 34] [8,9]
abbrev aha:=al (J [I 31 11,bD 32 .neq 31 0] [0,1,2,3,10,11,21,22,32]) (aH 32 (al ag_ aR) aC)
abbrev ahb:=J [be 35 .add 22 1,I 22 35] [0,1,2,3,21,22]
abbrev ahd:=J [aQ 8 0,aQ 9 0] [8,9]
def F5:bs:=⟨36,[(.tmp 8),(.tmp 9)],f3 ag6 ahe (al ahf (bb 0 (cg [0,1,2,3,21,22] (cv ag7 (aH 23 aC (bS 0)) (bb 1 (cb ag8 ag9 aha)) ahb)))) ahd aR⟩
theorem aFk:bB au (bE au If F5 []) If=some F5:=by kernel_rfl
abbrev ahg:=J [cl 4 cU] [0,1]
abbrev ahh:=J [I 5 0,bD 6 .geq 5 0,aN 7 6,av 7 (I 8 0),av 7 (I 9 1),av 7 (bv 10 .lss 8 9),cG 11 7 10,aN 4 11] [4]
def GG:bs:=⟨12,[(.tmp 4)],cb ahg ahh aR⟩
theorem aF2:bB au (bE au uc GG []) uc=some GG:=by kernel_rfl
abbrev ahi:=J [cl 6 cU] [0,1,2]
abbrev ahm:=J [I 10 0,I 11 1,a0 12 (.lookup .int [ae] false true (ab 10) (ab 11)),I 9 12,c_ 13 9 0,pJ 14 9 1,I 7 13,aN 8 14] [0,2,7,8]
abbrev ahn:=al (J [aN 15 8] [0,2,7,15]) (aH 15 aC (bS 0))
abbrev aho:=J [cl 6 fU] [6]
abbrev ahj:=al (J [I 22 7,I 23 2,bv 24 .eql 22 23] [0,2,7,24]) (aH 24 (al aho aR) aC)
abbrev ahk:=J [I 17 0,I 18 7,a0 19 (.lookup .int [ae] false true (ab 17) (ab 18)),I 16 19,c_ 20 16 0,pJ 21 16 1,I 7 20,aN 8 21] [0,2,7,8]
abbrev ahl:=J [cl 6 cU] [6]
def GD:bs:=⟨25,[(.tmp 6)],cv ahi (al ahm (bb 0 (cg [0,2,7,8] (cb ahn (bb 1 ahj) ahk)))) ahl aR⟩
theorem aF0:bB au (bE au IZ GD []) IZ=some GD:=by kernel_rfl
abbrev ahr:=J [cl 4 cU] [0,1]
abbrev ahA:=J [cl 4 cU] [4]
abbrev ahF:=al (J [I 9 1,bD 10 .gtr 9 64] [0,1,10]) (aH 10 (al ahA aR) aC)
abbrev ahG:=J [I 12 0,I 13 1,bt 14 IB [ab 12,ab 13],I 11 14,c_ 15 11 0,c_ 16 11 1,I 5 15,I 6 16] [0,1,6]
abbrev ahs:=J [cl 4 cU] [4]
abbrev aht:=al (J [I 17 6,bD 18 .neq 17 0] [0,1,18]) (aH 18 (al ahs aR) aC)
abbrev ahu:=J [I 19 0,I 20 1,a0 21 (.nP true (ab 20) (bX 0)),bt 22 IA [ab 19,ab 21],I 7 22] [0,7]
abbrev ahv:=J [cl 4 cU] [4]
abbrev ahw:=al (J [I 23 7,bF 24 23,I 25 0,bF 26 25,bv 27 .neq 24 26] [0,7,27]) (aH 27 (al ahv aR) aC)
abbrev ahx:=J [I 28 7,bF 29 28,aQ 30 0] [0,7,29,30]
abbrev ahy:=J [b0 31 .lss 30 29] [0,7,29,30,31]
abbrev ahz:=J [I 32 30,I 8 32] [0,7,8,29,30]
abbrev ahB:=J [cl 4 cU] [4]
abbrev ahC:=al (di [I 33 7,I 34 8,bi 35 4 33 34,aY 36 4 35,I 37 0,I 38 8,bi 39 4 37 38,aY 40 4 39,d8 41 (.bin .neq (.cells [.int,.int,.int,.bool]) (ab 36) (ab 40))] [U,U,U,U,U,U,U,U,U] [0,7,29,30,41]) (aH 41 (al ahB aR) aC)
abbrev ahD:=J [be 42 .add 30 1,I 30 42] [0,7,29,30]
abbrev ahE:=J [cl 4 fU] [4]
def Gk:bs:=⟨43,[(.tmp 4)],iL ahr ahF (al ahG aht) ahu ahw (al ahx (bb 0 (cg [0,7,29,30] (cv ahy (aH 31 aC (bS 0)) (bb 1 (al ahz ahC)) ahD)))) ahE aR⟩
theorem aFA:bB au (bE au Iz Gk []) Iz=some Gk:=by kernel_rfl
abbrev alk:=J [aQ 10 0] [0,1,2,3,4]
abbrev alr:=J [I 12 0,I 13 1,bi 14 5 12 13,aY 15 5 14,cy 11 [ae,ae,ae,b3,b3],br 5 11 15] [0,1,2,3,4,11]
abbrev als:=J [aQ 10 9] [10]
abbrev alt:=al (J [ai 16 0 11,am 17 16,bD 18 .lss 17 0,aN 19 18,ax 19 (ai 20 0 11),ax 19 (am 21 20),ax 19 (I 22 2),ax 19 (bv 23 .geq 21 22),cC 24 19 23] [0,1,3,4,11,24]) (aH 24 (al als aR) aC)
abbrev alm:=J [aQ 10 13] [10]
abbrev aln:=al (di [I 25 1,bD 26 .gtr 25 0,aN 27 26,av 27 (I 28 0),av 27 (I 29 1),av 27 (be 30 .sub 29 1),av 27 (bi 31 5 28 30),av 27 (ai 32 0 31),av 27 (am 33 32),av 27 (ai 34 0 11),av 27 (am 35 34),av 27 (bv 36 .eql 33 35),cG 37 27 36] [U,U,U,U,U,U,U,U,U,U,U,U,U] [0,1,3,4,11,37]) (aH 37 (al alm aR) aC)
abbrev alo:=J [aQ 10 10] [10]
abbrev alp:=al (di [ai 38 1 11,am 39 38,I 40 3,bv 41 .lss 39 40,aN 42 41,ax 42 (ai 43 1 11),ax 42 (am 44 43),ax 42 (ai 45 2 11),ax 42 (am 46 45),ax 42 (bv 47 .gtr 44 46),cC 48 42 47,aN 49 48,ax 49 (ai 50 2 11),ax 49 (am 51 50),ax 49 (I 52 4),ax 49 (bv 53 .gtr 51 52),cC 54 49 53,aN 55 54,ax 55 (I 56 1),ax 55 (bD 57 .gtr 56 0),ax 55 (aN 58 57),av 58 (ai 59 1 11),av 58 (am 60 59),av 58 (I 61 0),av 58 (I 62 1),av 58 (be 63 .sub 62 1),av 58 (bi 64 5 61 63),av 58 (ai 65 2 64),av 58 (am 66 65),av 58 (bv 67 .lss 60 66),ax 55 (cG 68 58 67),cC 69 55 68] [U,U,U,U,U,U,U,U,U,U,U,U,U,U,U,U,U,U,U,U,U,U,U,U,U,U,U,U,U,U,U,U] [69]) (aH 69 (al alo aR) aC)
abbrev alq:=J [aQ 10 0] [10]
def F6:bs:=⟨70,[(.tmp 10)],uh alk alr alt aln alp alq aR⟩
theorem aFl:bB au (bE au Ig F6 []) Ig=some F6:=by kernel_rfl
abbrev alu:=J [aQ 4 0,aQ 5 0] [0,1]
abbrev alF:=J [a0 10 (.makeMap none),I 6 10] [0,1,6]
abbrev alK:=J [I 11 0,bF 12 11,aQ 13 0] [1,6,11,12,13]
abbrev alN:=J [b0 14 .lss 13 12] [1,6,11,12,13,14]
abbrev alv:=J [I 15 13,bi 16 4 11 13,aY 17 4 16,cy 8 [ae,ae,ae,b3],I 7 15,br 4 8 17] [1,6,7,8,11,12,13]
abbrev alw:=J [ai 18 0 8,am 19 18,ai 20 1 8,am 21 20,ai 22 3 8,eJ 23 22,a0 24 (.build [ae,ae,b3] [(0,(1,(ab 19))),(1,(1,(ab 21))),(2,(1,(ab 23)))]),cy 9 [ae,ae,b3],br 3 9 24] [1,6,7,8,9,11,12,13]
abbrev alx:=J [ai 40 0 8,am 41 40,ai 42 1 8,am 43 42,bv 44 .eql 41 43,aN 25 44] [1,6,7,8,9,11,12,13,25]
abbrev aly:=al (J [ai 36 1 8,am 37 36,I 38 1,bv 39 .geq 37 38,aN 25 39] [1,6,7,8,9,11,12,13,25]) (aH 25 aC alx)
abbrev alz:=al (J [ai 33 1 8,am 34 33,bD 35 .lss 34 0,aN 25 35] [1,6,7,8,9,11,12,13,25]) (aH 25 aC aly)
abbrev alA:=al (J [ai 29 0 8,am 30 29,I 31 1,bv 32 .geq 30 31,aN 25 32] [1,6,7,8,9,11,12,13,25]) (aH 25 aC alz)
abbrev alB:=al (J [ai 26 0 8,am 27 26,bD 28 .lss 27 0,aN 25 28] [1,6,7,8,9,11,12,13,25]) (aH 25 aC alA)
abbrev alC:=J [I 45 7,I 4 45,aQ 5 9] [4,5]
abbrev alD:=J [ai 50 2 8,am 51 50,bD 52 .gtr 51 14400,aN 46 52] [1,6,7,9,11,12,13,46]
abbrev alE:=al (J [ai 47 2 8,am 48 47,bD 49 .lss 48 1,aN 46 49] [1,6,7,8,9,11,12,13,46]) (aH 46 aC alD)
abbrev alG:=J [I 53 7,I 4 53,aQ 5 2] [4,5]
abbrev alH:=J [I 58 7,I 4 58,aQ 5 6] [4,5]
abbrev alI:=al (J [I 55 6,aY 56 3 9,d8 57 (.lookup (.cells [.int,.int,.bool]) [b3] false false (ab 55) (ab 56)),aN 54 57] [1,6,7,9,11,12,13,54]) (aH 54 (al alH aR) aC)
abbrev alJ:=J [I 59 6,aY 60 3 9,lP (.mapUpdate (.cells [.int,.int,.bool]) (ab 59) (ab 60) fU)] [1,6,11,12,13]
abbrev alL:=J [be 61 .add 13 1,I 13 61] [1,6,11,12,13]
abbrev alM:=J [aQ 4 0,aQ 5 0] [4,5]
def Gq:bs:=⟨62,[(.tmp 4),(.tmp 5)],f3 alu alF (al alK (bb 0 (cg [1,6,11,12,13] (cv alN (aH 14 aC (bS 0)) (bb 1 (cv alv alw (bb 2 (al alB (aH 25 (al alC aR) (al alE (aH 46 (al alG aR) alI))))) alJ)) alL)))) alM aR⟩
theorem aFF:bB au (bE au IB Gq []) IB=some Gq:=by kernel_rfl
abbrev alO:=J [d9 4 fu] [0,1]
abbrev alY:=J [I 13 0,I 14 1,bt 15 DU [ab 13,ab 14,cU],I 16 0,I 17 1,bt 18 DU [ab 16,ab 17,fU],I 5 15,I 6 18] [5,6]
abbrev al2:=J [cy 7 [c1]] [5,6,7]
abbrev al4:=J [a0 19 (.lO z4 [ab 7]),I 8 19] [5,6,7,8]
abbrev al5:=J [I 20 5,bF 21 20,aQ 22 0] [5,6,7,8,21,22]
abbrev alP:=J [b0 23 .lss 22 21] [5,6,7,8,21,22,23]
abbrev alQ:=J [I 24 22,I 9 24] [5,6,7,8,9,21,22]
abbrev alR:=J [I 25 5,I 26 9,bi 27 1 25 26,am 28 27,bF 29 28,aQ 30 0] [5,6,7,8,9,21,22,28,29,30]
abbrev alS:=J [b0 31 .lss 30 29] [5,6,7,8,9,21,22,28,29,30,31]
abbrev alT:=J [I 32 30,bi 33 1 28 30,am 34 33,I 10 32,I 11 34] [5,6,7,8,9,10,11,21,22,28,29,30]
abbrev alU:=al (J [I 35 9,I 36 10,bv 37 .eql 35 36] [5,6,7,8,9,10,11,21,22,28,29,30,37]) (aH 37 (bS 3) aC)
abbrev alV:=J [I 38 6,I 39 9,bi 40 1 38 39,am 41 40,I 42 10,bi 43 1 41 42,am 44 43,I 12 44] [5,6,7,8,9,10,11,12,21,22,28,29,30]
abbrev alW:=J [I 45 8,I 46 9,I 47 10,I 48 11,I 49 12,I 50 11,bv 51 .eql 49 50,a0 52 (.fX (ab 45) [ab 46,ab 47,ab 48,ab 51])] [5,6,7,8,9,10,11,12,21,22,28,29,30]
abbrev alX:=J [I 56 8,I 57 9,I 58 10,I 59 12,a0 60 (.fX (ab 56) [ab 57,ab 58,ab 59,fU])] [5,6,7,8,9,21,22,28,29,30]
abbrev alZ:=al (J [I 53 12,I 54 11,bv 55 .neq 53 54] [5,6,7,8,9,10,12,21,22,28,29,30,55]) (aH 55 alX aC)
abbrev al0:=J [be 61 .add 30 1,I 30 61] [5,6,7,8,9,21,22,28,29,30]
abbrev al1:=J [be 62 .add 22 1,I 22 62] [5,6,7,8,21,22]
abbrev al3:=J [am 63 7,bt 64 Jm [ab 63,.const (.dF DT [])]] [7]
abbrev Q3:a6:=ba 58 (J [am 65 7,I 4 65] [4])
theorem aDV(P:Program)(Q:Exit->aI->Mem->Prop)(s:aI)(M:Mem):dn P Q3 Q s M=@nn P [am 65 7,I 4 65] M ⟨s,fun aO ah=>Q .normal (g7 aO [4]) ah⟩:=rfl
def Gl:bs:=⟨66,[(.tmp 4)],iL alO alY al2 al4 (al al5 (bb 0 (cg [5,6,7,8,21,22] (cv alP (aH 23 aC (bS 0)) (bb 1 (cb alQ alR (bb 2 (cg [5,6,7,8,9,21,22,28,29,30] (cv alS (aH 31 aC (bS 2)) (bb 3 (f3 alT alU alV alW alZ)) al0))))) al1)))) al3 Q3 aR⟩
theorem aFD:bB au (bE au IA Gl []) IA=some Gl:=by kernel_rfl
abbrev apf:=J [d9 6 fu] [0,1,2]
abbrev apn:=J [a0 18 (.makeMap none),I 7 18] [0,1,2,7]
abbrev apv:=J [I 19 0,bF 20 19,aQ 21 0] [1,2,7,19,20,21]
abbrev apy:=J [b0 22 .lss 21 20] [1,2,7,19,20,21,22]
abbrev apg:=J [bi 23 4 19 21,aY 24 4 23,cy 9 [ae,ae,ae,b3],br 4 9 24] [1,2,7,9,19,20,21]
abbrev aph:=al (J [aN 25 2,aN 26 25,av 26 (ai 27 3 9),av 26 (eJ 28 27),av 26 (cM 29 28),cG 30 26 29] [1,2,7,9,19,20,21,30]) (aH 30 (bS 1) aC)
abbrev api:=J [ai 31 0 9,am 32 31,ai 33 1 9,am 34 33,a0 35 (.build [ae,ae,b3] [(0,(1,(ab 32))),(1,(1,(ab 34)))]),cy 10 [ae,ae,b3],br 3 10 35] [1,2,7,9,10,19,20,21]
abbrev apj:=J [I 37 7,aY 38 3 10,a0 39 (.lookup (.cells [.int,.int,.bool]) [ae] false true (ab 37) (ab 38)),I 36 39,c_ 40 36 0,pJ 41 36 1,I 11 40,aN 12 41] [1,2,7,9,10,11,12,19,20,21]
abbrev apk:=J [I 50 7,aY 51 3 10,ai 52 2 9,am 53 52,lP (.mapUpdate (.cells [.int,.int,.bool]) (ab 50) (ab 51) (ab 53))] [1,2,7,19,20,21]
abbrev apl:=al (J [aN 42 12,cM 43 42,aN 44 43,ax 44 (ai 45 2 9),ax 44 (am 46 45),ax 44 (I 47 11),ax 44 (bv 48 .lss 46 47),cC 49 44 48] [1,2,7,9,10,19,20,21,49]) (aH 49 apk aC)
abbrev apm:=J [be 54 .add 21 1,I 21 54] [1,2,7,19,20,21]
abbrev apo:=J [I 55 7,a0 56 (.uk (ab 55)),a0 57 (.makeSlice [ae,ae,ae] 3 24 (bX 0) (ab 56)),I 13 57] [1,7,13]
abbrev apq:=J [I 58 7,a0 59 (.ux (ab 58))] [1,13,59]
abbrev apr:=J [a0 60 (.rW (ab 59)),pJ 61 60 0] [1,13,59,61]
abbrev aps:=J [a0 62 (.tx (ab 59)),c_ 63 62 0,c_ 64 62 1,cy 14 [ae,ae,b3],br 3 14 63,I 15 64] [1,13,14,15,59]
abbrev apt:=J [I 65 13,ai 66 0 14,am 67 66,ai 68 1 14,am 69 68,I 70 15,a0 71 (.build [ae,ae,ae] [(0,(1,(ab 67))),(1,(1,(ab 69))),(2,(1,(ab 70)))]),a0 72 (.buildSlice [ae,ae,ae] 3 1 [(0,(3,(ab 71)))]),hR 73 3 24 65 72,I 13 73] [1,13,59]
abbrev apu:a6:=ba 49 (cg [1,13,59] (cb apr (aH 61 aC (bS 2)) (bb 3 (al aps apt))))
abbrev apw:=J [I 75 1,a0 76 (.rV (ab 13)),bt 77 Jh [ab 75,ab 76],I 74 77,c_ 78 74 0,c_ 79 74 1,I 16 78,I 17 79] [16]
abbrev apx:=J [I 80 16,I 6 80] [6]
def Gp:bs:=⟨81,[(.tmp 6)],iL apf apn (al apv (bb 0 (cg [1,2,7,19,20,21] (cv apy (aH 22 aC (bS 0)) (bb 1 (f3 apg aph api apj apl)) apm)))) apo (al apq (bb 2 apu)) apw apx aR⟩
theorem aFE:bB au (bE au DU Gp [(16,[1])]) DU=some Gp:=by kernel_rfl
abbrev apz:=J [am 15 4,I 16 0,I 17 1,I 18 2,aN 19 3,a0 20 (.build [ae,ae,ae,b3] [(0,(1,(ab 16))),(1,(1,(ab 17))),(2,(1,(ab 18))),(3,(1,(ab 19)))]),a0 21 (.buildSlice [ae,ae,ae,b3] 4 1 [(0,(4,(ab 20)))]),hR 22 4 32 15 21,br 1 4 22] []
abbrev apA:=al (J [I 9 2,bD 10 .gtr 9 0,aN 11 10,av 11 (I 12 2),av 11 (bD 13 .leq 12 14400),cG 14 11 13] [0,1,2,3,4,14]) (aH 14 apz aC)
def Gm:bs:=⟨23,[],apA⟩
theorem aFB:bB au (bE au z4 Gm []) z4=some Gm:=by kernel_rfl
abbrev apD:=J [cu 2 4 0,cu 3 4 1,aQ 4 0] [2,3]
abbrev apE:=di [ai 5 0 2,am 6 5,ai 7 0 3,am 8 7,bt 9 ua [ab 6,ab 8],ai 10 1 2,am 11 10,ai 12 1 3,am 13 12,bt 14 ua [ab 11,ab 13],ai 15 2 2,am 16 15,ai 17 2 3,am 18 17,bt 19 ua [ab 16,ab 18],a0 20 (.buildSlice [ae,ae,ae] 1 3 [(0,(1,(ab 9))),(1,(1,(ab 14))),(2,(1,(ab 19)))]),bt 21 DM [ab 20],I 4 21] [U,U,U,U,U,U,U,U,U,U,U,U,U,U,ff,U,ff,U] [4]
def Gn:bs:=⟨22,[(.tmp 4)],cb apD apE aR⟩
theorem aFC:bB au (bE au DT Gn []) DT=some Gn:=by kernel_rfl
end Go.aL.C
namespace Go.aL.C
open Go.aL
abbrev auG:=J [d9 2 (.const .dE)] [0]
abbrev auH:=J [d9 2 (.const .dE)] [2]
abbrev auI:=al (J [I 3 0,d8 4 (.bin .eql .fn (ab 3) (.const .gz))] [0,4]) (aH 4 (al auH aR) aC)
abbrev auJ:=J [I 5 0,a0 6 (.build [.gz,c1,ae] [(0,(1,(ab 5)))]),cu 7 3 6,I 2 7] [2]
def B9:bs:=⟨8,[(.tmp 2)],cv auG auI auJ aR⟩
theorem S3:bB au (bE au IE B9 []) IE=some B9:=by kernel_rfl
abbrev ay2:=J [aQ 2 0] [0]
abbrev ay3:=J [aQ 2 0] [2]
abbrev ay4:=al (J [I 3 0,d8 4 (.bin .eql .ptr (ab 3) (.const .dE))] [0,4]) (aH 4 (al ay3 aR) aC)
abbrev ay5:=J [I 5 0,b2 6 5,ai 7 1 6,am 8 7,bF 9 8,I 2 9] [2]
def xf:bs:=⟨10,[(.tmp 2)],cv ay2 ay4 ay5 aR⟩
theorem Mk:bB au (bE au z5 xf []) z5=some xf:=by kernel_rfl
abbrev ay6:=J [cy 2 [ae,ae,ae,ae,ae,ae,ae,ae,ae,ae,ae,.dE,c1],cl 3 cU] [0,2]
abbrev azg:=J [I 8 0,bt 9 IC [ab 8],I 7 9,c_ 10 7 0,pJ 11 7 1,cy 4 [ae,ae,ae,ae,ae,ae,ae,ae,ae,ae,ae,.dE,c1],br 13 4 10,aN 5 11] [0,2,4,5]
abbrev azh:=J [aY 14 13 4,br 13 2 14,cl 3 cU] [2,3]
abbrev azi:=al (J [aN 12 5,cM 13 12] [0,2,4,13]) (aH 13 (al azh aR) aC)
abbrev ay7:a6:=ba 10 (J [I 15 0,b2 16 15,ai 17 1 16,am 18 17,bF 19 18,be 20 .sub 19 1,I 6 20] [0,2,4,6])
abbrev ay8:a6:=ba 12 (J [I 21 0,I 22 6,bt 23 z8 [ab 21,bX 0,ab 22]] [0,2,4,6])
abbrev ay9:a6:=ba 14 (J [I 24 0,I 25 0,b2 26 25,ai 27 1 26,am 28 27,I 29 6,a0 30 (.slice 14 (ab 28) none (some (ab 29)) none),b2 31 24,ai 32 1 31,br 1 32 30] [0,2,4])
abbrev ay_:a6:=ba 16 (J [I 33 0,bt 34 ID [ab 33]] [2,4])
abbrev aza:a6:=ba 18 (J [aY 35 13 4,br 13 2 35,cl 3 fU] [2,3])
abbrev azb:a6:=ba 19 (al aza aR)
abbrev azc:a6:=ba 20 (al ay_ azb)
abbrev azd:a6:=ba 21 (al ay9 azc)
abbrev aze:a6:=ba 22 (al ay8 azd)
abbrev azf:a6:=ba 23 (al ay7 aze)
def B5:bs:=⟨36,[(.cell 2 13 true),(.tmp 3)],cv ay6 azg azi azf⟩
theorem SX:bB au (bE au DV B5 []) DV=some B5:=by kernel_rfl
abbrev aCH:=J [aQ 2 0] [0]
abbrev aCN:=J [aQ 3 0] [0,3]
abbrev aCO:=J [I 6 0,bF 7 6,aQ 8 0] [3,6,7,8]
abbrev aCP:=J [b0 9 .lss 8 7] [3,6,7,8,9]
abbrev aCI:=J [bi 10 1 6 8,am 11 10,I 5 11] [3,5,6,7,8]
abbrev aCJ:=J [I 15 5,I 2 15] [2]
abbrev aCK:=al (J [I 12 5,I 13 3,bv 14 .neq 12 13] [3,5,6,7,8,14]) (aH 14 (al aCJ aR) aC)
abbrev aCL:=J [be 16 .add 8 1,I 8 16] [3,6,7,8]
abbrev aCM:=J [I 17 3,I 2 17] [2]
def F8:bs:=⟨18,[(.tmp 2)],f3 aCH aCN (al aCO (bb 0 (cg [3,6,7,8] (cv aCP (aH 9 aC (bS 0)) (bb 1 (al aCI aCK)) aCL)))) aCM aR⟩
theorem aFn:bB au (bE au DM F8 []) DM=some F8:=by kernel_rfl
abbrev acU:=J [aQ 4 0] [0,1]
abbrev ac3:=J [I 7 0,cW 8 DN [ab 7],aN 5 8] [0,1,5]
abbrev ac6:=J [I 9 1,cW 10 DN [ab 9],aN 6 10] [0,1,5,6]
abbrev ac7:=J [aQ 4 0] [4]
abbrev acV:=al (J [aN 12 6] [12]) (aH 12 (al ac7 aR) aC)
abbrev acW:=J [aQ 4 (-1)] [4]
abbrev acX:=al (J [aN 11 5] [0,1,6,11]) (aH 11 (cb acV acW aR) aC)
abbrev acY:=J [aQ 4 1] [4]
abbrev acZ:=al (J [aN 13 6] [0,1,13]) (aH 13 (al acY aR) aC)
abbrev ac0:=J [aQ 4 (-1)] [4]
abbrev ac1:=al (J [I 14 0,I 15 1,bv 16 .lss 14 15] [0,1,16]) (aH 16 (al ac0 aR) aC)
abbrev ac2:=J [aQ 4 1] [4]
abbrev ac4:=al (J [I 17 0,I 18 1,bv 19 .gtr 17 18] [19]) (aH 19 (al ac2 aR) aC)
abbrev ac5:=J [aQ 4 0] [4]
def F7:bs:=⟨20,[(.tmp 4)],al acU (iL ac3 ac6 acX acZ ac1 ac4 ac5 aR)⟩
theorem aFm:bB au (bE au ua F7 []) ua=some F7:=by kernel_rfl
abbrev afI:=J [cu 3 13 1] [0,3]
abbrev afN:=al (J [I 5 0,d8 6 (.bin .eql .ptr (ab 5) (.const .dE))] [0,3,6]) (aH 6 aR aC)
abbrev afO:a6:=.float [I 7 0,I 8 0,b2 9 8,ai 10 1 9,am 11 10,aY 12 13 3,I 13 0,b2 14 13,ai 15 2 14,am 16 15,a0 17 (.build [ae,ae,ae,ae,ae,ae,ae,ae,ae,ae,ae,.dE,c1,ae] [(0,(13,(ab 12))),(13,(1,(ab 16)))]),a0 18 (.buildSlice [ae,ae,ae,ae,ae,ae,ae,ae,ae,ae,ae,.dE,c1,ae] 14 1 [(0,(14,(ab 17)))]),hR 19 14 128 11 18,b2 20 7,ai 21 1 20,br 1 21 19] [none,none,none,none,none,none,none,none,none,none,none,none,(some [0]),none,none,(some [])] [0]
abbrev afP:=J [I 22 0,b2 23 22,ai 24 2 23,am 25 24,be 26 .add 25 1,b2 27 22,ai 28 2 27,br 1 28 26] [0]
abbrev afQ:=J [I 29 0,b2 30 29,ai 31 1 30,am 32 31,bF 33 32,be 34 .sub 33 1,I 4 34] [0,4]
abbrev afJ:=al (J [I 35 4,bD 36 .gtr 35 0,aN 37 36,av 37 (I 38 0),av 37 (I 39 4),av 37 (I 40 4),av 37 (be 41 .sub 40 1),av 37 (be 42 .quo 41 2),av 37 (cW 43 z7 [ab 38,ab 39,ab 42]),cG 44 37 43] [0,4,44]) (aH 44 aC (bS 0))
abbrev afK:=J [I 48 0,I 49 4,I 50 4,be 51 .sub 50 1,be 52 .quo 51 2,bt 53 z8 [ab 48,ab 49,ab 52]] [0,4]
abbrev afL:=J [I 45 4,be 46 .sub 45 1,be 47 .quo 46 2,I 4 47] [0,4]
abbrev afM:a6:=ba 19 (cg [0,4] (cb afJ (bb 1 afK) afL))
abbrev QX:a6:=ba 20 (bb 0 afM)
def xg:bs:=⟨54,[],hM afI afN afO afP afQ QX⟩
theorem Ml:bB au (bE au z6 xg []) z6=some xg:=by kernel_rfl
abbrev afR:=J [cy 2 [ae,ae,ae,ae,ae,ae,ae,ae,ae,ae,ae,.dE,c1],cl 3 cU] [0,2]
abbrev afT:=J [cy 4 [ae,ae,ae,ae,ae,ae,ae,ae,ae,ae,ae,.dE,c1]] [0,2,4]
abbrev afU:=J [aY 8 13 4,br 13 2 8,cl 3 cU] [2,3]
abbrev afV:=al (J [I 5 0,bt 6 z5 [ab 5],bD 7 .eql 6 0] [0,2,4,7]) (aH 7 (al afU aR) aC)
abbrev afS:=J [I 9 0,b2 10 9,ai 11 1 10,am 12 11,a0 13 (.mH 14 (ab 12) (bX 0)),ai 14 0 13,aY 15 13 14,br 13 2 15,cl 3 fU] [2,3]
def B4:bs:=⟨16,[(.cell 2 13 true),(.tmp 3)],f3 afR afT afV afS aR⟩
theorem SW:bB au (bE au IC B4 []) IC=some B4:=by kernel_rfl
abbrev afW:a6:=.float [I 6 0,b2 7 6,ai 8 1 7,am 9 8,I 10 1,I 11 0,b2 12 11,ai 13 1 12,am 14 13,I 15 2,I 16 0,b2 17 16,ai 18 1 17,am 19 18,I 20 2,bi 21 14 19 20,aY 22 14 21,I 23 0,b2 24 23,ai 25 1 24,am 26 25,I 27 1,bi 28 14 26 27,aY 29 14 28,bi 30 14 9 10,br 14 30 22,bi 31 14 14 15,br 14 31 29] [none,none,none,none,none,none,none,none,none,none,none,none,none,none,none,none,none,none,none,none,none,none,none,none,none,(some [9]),none,(some [])] []
def B8:bs:=⟨32,[],afW⟩
theorem S0:bB au (bE au z8 B8 []) z8=some B8:=by kernel_rfl
abbrev afX:=J [aQ 2 0] [0,2]
abbrev af2:=J [I 4 2,a0 5 (.bin .mul .none (bX 2) (ab 4)),be 6 .add 5 1,I 3 6] [0,2,3]
abbrev af3:=al (J [I 7 3,I 8 0,b2 9 8,ai 10 1 9,am 11 10,bF 12 11,bv 13 .geq 7 12] [0,2,3,13]) (aH 13 aR aC)
abbrev af4:=J [I 29 3,be 30 .add 29 1,I 3 30] [0,2,3]
abbrev af5:=al (J [I 14 3,be 15 .add 14 1,I 16 0,b2 17 16,ai 18 1 17,am 19 18,bF 20 19,bv 21 .lss 15 20,aN 22 21,av 22 (I 23 0),av 22 (I 24 3),av 22 (be 25 .add 24 1),av 22 (I 26 3),av 22 (cW 27 z7 [ab 23,ab 25,ab 26]),cG 28 22 27] [0,2,3,28]) (aH 28 af4 aC)
abbrev afY:a6:=ba 11 (al (J [I 31 0,I 32 3,I 33 2,cW 34 z7 [ab 31,ab 32,ab 33],cM 35 34] [0,2,3,35]) (aH 35 aR aC))
abbrev afZ:a6:=ba 13 (J [I 36 0,I 37 2,I 38 3,bt 39 z8 [ab 36,ab 37,ab 38]] [0,3])
abbrev af0:a6:=ba 15 (J [I 40 3,I 2 40] [0,2])
abbrev af1:a6:=ba 16 (al afZ af0)
abbrev QY:a6:=ba 17 (al afY af1)
def B7:bs:=⟨41,[],al afX (bb 0 (cg [0,2] (bb 1 (cv af2 af3 af5 QY))))⟩
theorem SZ:bB au (bE au ID B7 []) ID=some B7:=by kernel_rfl
abbrev aig:=J [cl 2 cU] [0]
abbrev aih:=J [I 3 0,I 4 0,bv 5 .neq 3 4,aN 2 5] [2]
def F9:bs:=⟨6,[(.tmp 2)],cb aig aih aR⟩
theorem aFo:bB au (bE au DN F9 []) DN=some F9:=by kernel_rfl
abbrev ajE:=J [cl 6 cU] [0,1,2]
abbrev ajI:a6:=.float [I 9 0,b2 10 9,ai 11 1 10,am 12 11,I 13 1,bi 14 14 12 13,aY 15 14 14,I 16 0,b2 17 16,ai 18 1 17,am 19 18,I 20 2,bi 21 14 19 20,aY 22 14 21,cy 7 [ae,ae,ae,ae,ae,ae,ae,ae,ae,ae,ae,.dE,c1,ae],cy 8 [ae,ae,ae,ae,ae,ae,ae,ae,ae,ae,ae,.dE,c1,ae],br 14 7 15,br 14 8 22] [none,none,none,none,none,none,none,none,none,none,none,none,none,none,(some [0,1,2,3,4,5,6,7,8,9,10,11,12,13]),(some [0,1,2,3,4,5,6,7,8,9,10,11,12,13]),(some [7,8,9,10,11,12,13]),(some [])] [0,7,8]
abbrev ajJ:=J [cl 6 fU] [6]
abbrev ajK:=al (di [I 23 0,b2 24 23,ai 25 0 24,am 26 25,ai 27 0 7,aY 28 13 27,ai 29 0 8,aY 30 13 29,d8 31 (.fX (ab 26) [ab 28,ab 30])] [U,U,U,U,U,U,U,U,ff] [0,7,8,31]) (aH 31 (al ajJ aR) aC)
abbrev ajF:=J [cl 6 cU] [6]
abbrev ajG:=al (di [I 32 0,b2 33 32,ai 34 0 33,am 35 34,ai 36 0 8,aY 37 13 36,ai 38 0 7,aY 39 13 38,d8 40 (.fX (ab 35) [ab 37,ab 39])] [U,U,U,U,U,U,U,U,ff] [7,8,40]) (aH 40 (al ajF aR) aC)
abbrev ajH:=J [ai 41 13 7,am 42 41,ai 43 13 8,am 44 43,bv 45 .lss 42 44,aN 6 45] [6]
def B6:bs:=⟨46,[(.tmp 6)],hM ajE ajI ajK ajG ajH aR⟩
theorem SY:bB au (bE au z7 B6 []) z7=some B6:=by kernel_rfl
abbrev apB:=J [I 5 0,bF 6 5,I 4 6] [0,1,4]
abbrev apC:=J [I 7 0,I 8 4,I 9 4,a0 10 (.conv .u64 (ab 9)),bt 11 DZ [ab 10],I 12 1,bt 13 Ak [ab 7,bX 0,ab 8,ab 11,ab 12]] []
def GQ:bs:=⟨14,[],al apB apC⟩
theorem aGb:bB au (bE au Jm GQ []) Jm=some GQ:=by kernel_rfl
abbrev aqm:=J [d9 4 fu,aQ 5 0] [0,1]
abbrev aqu:=J [I 10 0,I 11 1,bt 12 Ji [ab 10,ab 11,fu],I 6 12] [0,1,6]
abbrev aqv:=J [I 15 6,d9 4 fu,I 5 15] [4,5]
abbrev aqw:=al (J [I 13 6,bD 14 .neq 13 0] [0,1,6,14]) (aH 14 (al aqv aR) aC)
abbrev aqn:=J [I 16 1,bt 17 Jl [ab 16,cU],I 7 17] [0,7]
abbrev aqo:=J [I 18 0,a0 19 (.makeSlice [c1] 1 24 (ab 18) (ab 18)),I 8 19] [0,7,8]
abbrev aqp:=J [I 20 8,bF 21 20,aQ 22 0] [0,7,8,21,22]
abbrev aqq:=J [b0 23 .lss 22 21] [0,7,8,21,22,23]
abbrev aqr:=J [I 24 22,I 9 24] [0,7,8,9,21,22]
abbrev aqs:=J [I 25 8,I 26 9,I 27 0,I 28 7,I 29 9,bt 30 Jj [ab 27,ab 28,ab 29],bt 31 Jk [ab 30],bi 32 1 25 26,br 1 32 31] [0,7,8,21,22]
abbrev aqt:=J [be 33 .add 22 1,I 22 33] [0,7,8,21,22]
abbrev Q7:a6:=ba 33 (J [I 34 8,I 4 34,aQ 5 0] [4,5])
theorem aDY(P:Program)(Q:Exit->aI->Mem->Prop)(s:aI)(M:Mem):dn P Q7 Q s M=@nn P [I 34 8,I 4 34,aQ 5 0] M ⟨s,fun aO ah=>Q .normal (g7 aO [4,5]) ah⟩:=rfl
def GJ:bs:=⟨35,[(.tmp 4),(.tmp 5)],iL aqm aqu aqw aqn aqo (al aqp (bb 0 (cg [0,7,8,21,22] (cv aqq (aH 23 aC (bS 0)) (bb 1 (al aqr aqs)) aqt)))) Q7 aR⟩
theorem aF5:bB au (bE au Jh GJ []) Jh=some GJ:=by kernel_rfl
abbrev aqx:=J [cl 10 fU] [0,1,2,3,4,10]
abbrev aqH:=J [cl 11 fU] [0,1,2,3,4,10,11]
abbrev aqQ:=J [I 21 2,I 22 1,b0 23 .sub 21 22,I 12 23] [0,1,2,3,4,10,11,12]
abbrev aq0:=J [I 26 0,I 27 1,I 28 2,I 29 4,bt 30 Jp [ab 26,ab 27,ab 28,ab 29]] []
abbrev aqy:=al (J [I 24 12,bD 25 .leq 24 12] [0,1,2,3,4,10,11,12,25]) (aH 25 (al aq0 aR) aC)
abbrev aqz:=J [I 33 0,I 34 1,I 35 2,I 36 4,bt 37 aKJ [ab 33,ab 34,ab 35,ab 36]] []
abbrev aqA:=al (J [I 31 3,bD 32 .eql 31 0] [0,1,2,3,4,10,11,12,32]) (aH 32 (al aqz aR) aC)
abbrev aqB:=J [I 40 0,I 41 1,I 42 2,I 43 4,bt 44 aKH [ab 40,ab 41,ab 42,ab 43]] [0,1,2,3,4,10,11,12]
abbrev aqC:=J [I 45 3,be 46 .sub 45 1,I 3 46] [0,1,2,3,4,10,11,12]
abbrev aqD:=al (J [aN 38 10,cM 39 38] [0,1,2,3,4,10,11,12,39]) (aH 39 (al aqB aqC) aC)
abbrev aqE:=J [I 48 0,I 49 1,I 50 2,I 51 4,bt 52 Jn [ab 48,ab 49,ab 50,ab 51],I 47 52,c_ 53 47 0,c_ 54 47 1,I 13 53,I 14 54] [0,1,2,3,4,10,11,12,13,14]
abbrev aqF:=J [I 57 0,I 58 1,I 59 2,I 60 4,bt 61 aKP [ab 57,ab 58,ab 59,ab 60]] [0,1,2,3,4,10,11,12,13]
abbrev aqG:=J [I 62 2,be 63 .sub 62 1,I 64 13,I 65 1,b0 66 .sub 64 65,b0 67 .sub 63 66,I 13 67] [0,1,2,3,4,10,11,12,13]
abbrev aqI:=J [aQ 14 1] [0,1,2,3,4,10,11,12,13,14]
abbrev aqJ:=al (J [I 55 14,bD 56 .eql 55 2] [0,1,2,3,4,10,11,12,13,14,56]) (aH 56 (cb aqF aqG aqI) aC)
abbrev aqK:=al (J [I 76 0,I 77 1,I 78 2,I 79 4,cW 80 Jr [ab 76,ab 77,ab 78,ab 79]] [0,1,2,3,4,10,11,12,13,80]) (aH 80 aR aC)
abbrev aqL:=al (J [aN 68 10,aN 69 68,av 69 (aN 70 11),cG 71 69 70,aN 72 71,av 72 (I 73 14),av 72 (bD 74 .eql 73 1),cG 75 72 74] [0,1,2,3,4,10,11,12,13,75]) (aH 75 aqK aC)
abbrev aqM:=J [I 98 0,I 99 1,I 100 2,I 101 13,I 102 4,bt 103 aKN [ab 98,ab 99,ab 100,ab 101,ab 102],I 15 103] [0,2,3,4,10,11,15]
abbrev aqN:=J [I 104 15,I 1 104] [0,1,2,3,4,10,11]
abbrev aqO:=al (di [I 81 1,bD 82 .gtr 81 0,aN 83 82,av 83 (I 84 4),av 83 (I 85 0),av 83 (I 86 1),av 83 (be 87 .sub 86 1),av 83 (bi 88 4 85 87),av 83 (aY 89 4 88),av 83 (I 90 0),av 83 (I 91 13),av 83 (bi 92 4 90 91),av 83 (aY 93 4 92),av 83 (a0 94 (.fX (ab 84) [ab 89,ab 93])),av 83 (bD 95 .lss 94 0),av 83 (cM 96 95),cG 97 83 96] [U,U,U,U,U,U,U,U,U,U,U,U,U,ff,U,U,U] [0,1,2,3,4,10,11,12,13,97]) (aH 97 (cb aqM aqN (bS 1)) aC)
abbrev aqP:=J [I 106 0,I 107 1,I 108 2,I 109 13,I 110 4,bt 111 aKL [ab 106,ab 107,ab 108,ab 109,ab 110],I 105 111,c_ 112 105 0,pJ 113 105 1,I 16 112,aN 17 113] [0,1,2,3,4,12,16,17]
abbrev aqR:=J [aN 114 17,aN 11 114] [0,1,2,3,4,11,12,16]
abbrev aqS:=J [I 115 16,I 116 1,b0 117 .sub 115 116,I 118 2,I 119 16,b0 120 .sub 118 119,I 18 117,I 19 120] [0,1,2,3,4,11,12,16,18,19]
abbrev aqT:=J [I 121 12,be 122 .quo 121 8,I 20 122] [0,1,2,3,4,11,16,18,19,20]
abbrev aqU:=J [I 126 18,I 127 20,bv 128 .geq 126 127,aN 10 128] [0,1,2,3,4,10,11,16]
abbrev aqV:=J [I 129 0,I 130 1,I 131 16,I 132 3,I 133 4,bt 134 Ak [ab 129,ab 130,ab 131,ab 132,ab 133]] [0,2,3,4,10,11,16]
abbrev aqW:=J [I 135 16,be 136 .add 135 1,I 1 136] [0,1,2,3,4,10,11]
abbrev aqX:=J [I 137 19,I 138 20,bv 139 .geq 137 138,aN 10 139] [0,1,2,3,4,10,11,16]
abbrev aqY:=J [I 140 0,I 141 16,be 142 .add 141 1,I 143 2,I 144 3,I 145 4,bt 146 Ak [ab 140,ab 142,ab 143,ab 144,ab 145]] [0,1,3,4,10,11,16]
abbrev aqZ:=J [I 147 16,I 2 147] [0,1,2,3,4,10,11]
abbrev aq1:=al (J [I 123 18,I 124 19,bv 125 .lss 123 124] [0,1,2,3,4,11,16,18,19,20,125]) (aH 125 (cb aqU aqV aqW) (cb aqX aqY aqZ))
def G5:bs:=⟨148,[],cb aqx aqH (bb 0 (cg [0,1,2,3,4,10,11] (bb 1 (hM aqQ aqy aqA aqD aqE (iL aqJ aqL aqO aqP aqR aqS aqT aq1)))))⟩
theorem aGp:bB au (bE au Ak G5 []) Ak=some G5:=by kernel_rfl
abbrev aq7:=J [cu 3 1 0,aQ 6 0] [1,2,3]
abbrev arf:=J [aQ 6 2] [6]
abbrev arp:=al (J [am 12 3,bD 13 .lss 12 0,aN 14 13,ax 14 (am 15 3),ax 14 (bD 16 .gtr 15 64),cC 17 14 16] [1,2,3,17]) (aH 17 (al arf aR) aC)
abbrev ars:=J [aQ 6 5] [6]
abbrev aq8:=al (J [I 18 1,bF 19 18,bD 20 .gtr 19 4096] [1,2,3,20]) (aH 20 (al ars aR) aC)
abbrev aq9:=J [a0 21 (.lO Af [ab 3]),I 7 21] [1,2,7]
abbrev aq_:=J [I 22 1,bF 23 22,aQ 24 0] [2,7,22,23,24]
abbrev ara:=J [b0 25 .lss 24 23] [2,7,22,23,24,25]
abbrev arb:=J [bi 26 3 22 24,aY 27 3 26,cy 9 [ae,ae,ae],br 3 9 27] [2,7,9,22,23,24]
abbrev arc:=J [aQ 6 9] [6]
abbrev ard:=al (J [I 28 7,ai 29 0 9,am 30 29,d8 31 (.fX (ab 28) [ab 30]),aN 32 31,ax 32 (I 33 7),ax 32 (ai 34 1 9),ax 32 (am 35 34),ax 32 (d8 36 (.fX (ab 33) [ab 35])),cC 37 32 36] [2,7,9,22,23,24,37]) (aH 37 (al arc aR) aC)
abbrev are:=J [aQ 6 2] [6]
abbrev arh:=al (J [ai 38 2 9,am 39 38,bD 40 .lss 39 0,aN 41 40,ax 41 (ai 42 2 9),ax 41 (am 43 42),ax 41 (bD 44 .gtr 43 1073741824),cC 45 41 44] [2,7,22,23,24,45]) (aH 45 (al are aR) aC)
abbrev ari:=J [be 46 .add 24 1,I 24 46] [2,7,22,23,24]
abbrev arj:=J [I 47 2,bF 48 47,aQ 49 0] [7,47,48,49]
abbrev ark:=J [b0 50 .lss 49 48] [7,47,48,49,50]
abbrev arl:=J [bi 51 1 47 49,am 52 51,I 11 52] [7,11,47,48,49]
abbrev arm:=J [aQ 6 9] [6]
abbrev arn:=al (J [I 53 7,I 54 11,d8 55 (.fX (ab 53) [ab 54])] [7,47,48,49,55]) (aH 55 (al arm aR) aC)
abbrev aro:=J [be 56 .add 49 1,I 49 56] [7,47,48,49]
abbrev arq:=J [aQ 6 0] [6]
def GK:bs:=⟨57,[(.tmp 6)],iL aq7 arp aq8 aq9 (al aq_ (bb 0 (cg [2,7,22,23,24] (cv ara (aH 25 aC (bS 0)) (bb 1 (cb arb ard arh)) ari)))) (al arj (bb 2 (cg [7,47,48,49] (cv ark (aH 50 aC (bS 2)) (bb 3 (al arl arn)) aro)))) arq aR⟩
theorem aF7:bB au (bE au Ji GK []) Ji=some GK:=by kernel_rfl
abbrev art:=J [d9 4 (.const .jJ)] [0,1]
abbrev arA:=J [a0 8 (.makeMap none),I 5 8] [0,1,5]
abbrev arB:=J [I 9 0,bF 10 9,aQ 11 0] [1,5,9,10,11]
abbrev arC:=J [b0 12 .lss 11 10] [1,5,9,10,11,12]
abbrev aru:=J [bi 13 3 9 11,aY 14 3 13,cy 7 [ae,ae,ae],br 3 7 14] [1,5,7,9,10,11]
abbrev arv:=J [ai 16 1 7,am 17 16,ai 18 0 7,am 19 18,ai 20 0 7,br 1 20 17,ai 21 1 7,br 1 21 19] [1,5,7,9,10,11]
abbrev arw:=al (J [aN 15 1] [1,5,7,9,10,11,15]) (aH 15 arv aC)
abbrev arx:a6:=.float [I 22 5,ai 23 0 7,am 24 23,I 25 5,ai 26 0 7,am 27 26,a0 28 (.lookup .int [c1] false false (ab 25) (ab 27)),aY 29 3 7,a0 30 (.buildSlice [ae,ae,ae] 3 1 [(0,(3,(ab 29)))]),hR 31 3 24 28 30,lP (.mapUpdate .int (ab 22) (ab 24) (ab 31))] [none,none,none,none,none,none,none,none,none,(some [0,1,2]),(some [])] [1,5,9,10,11]
abbrev ary:=J [be 32 .add 11 1,I 11 32] [1,5,9,10,11]
abbrev arz:=J [I 33 5,I 4 33] [4]
def GP:bs:=⟨34,[(.tmp 4)],f3 art arA (al arB (bb 0 (cg [1,5,9,10,11] (cv arC (aH 12 aC (bS 0)) (bb 1 (cb aru arw arx)) ary)))) arz aR⟩
theorem aGa:bB au (bE au Jl GP []) Jl=some GP:=by kernel_rfl
abbrev arD:=J [d9 2 fu] [0]
abbrev arH:=J [I 6 0,bF 7 6,a0 8 (.makeSlice [ae] 1 8 (ab 7) (ab 7)),I 3 8] [0,3]
abbrev arI:=J [I 9 0,bF 10 9,aQ 11 0] [3,9,10,11]
abbrev arJ:=J [b0 12 .lss 11 10] [3,9,10,11,12]
abbrev arE:=J [I 13 11,bi 14 3 9 11,aY 15 3 14,cy 5 [ae,ae,ae],I 4 13,br 3 5 15] [3,4,5,9,10,11]
abbrev arF:=J [I 16 3,I 17 4,ai 18 1 5,am 19 18,bi 20 1 16 17,br 1 20 19] [3,9,10,11]
abbrev arG:=J [be 21 .add 11 1,I 11 21] [3,9,10,11]
abbrev Q8:a6:=ba 24 (J [I 22 3,I 2 22] [2])
theorem aDZ(P:Program)(Q:Exit->aI->Mem->Prop)(s:aI)(M:Mem):dn P Q8 Q s M=@nn P [I 22 3,I 2 22] M ⟨s,fun aO ah=>Q .normal (g7 aO [2]) ah⟩:=rfl
def GN:bs:=⟨23,[(.tmp 2)],f3 arD arH (al arI (bb 0 (cg [3,9,10,11] (cv arJ (aH 12 aC (bS 0)) (bb 1 (al arE arF)) arG)))) Q8 aR⟩
theorem aF9:bB au (bE au Jk GN []) Jk=some GN:=by kernel_rfl
abbrev arK:=J [d9 6 fu] [0,1,2]
abbrev arR:=J [I 14 0,a0 15 (.makeSlice [ae,ae,ae] 3 24 (ab 14) (ab 14)),I 7 15] [1,2,7]
abbrev ar0:=J [I 16 7,bF 17 16,aQ 18 0] [1,2,7,17,18]
abbrev ar2:=J [b0 19 .lss 18 17] [1,2,7,17,18,19]
abbrev arL:=J [I 20 18,I 8 20] [1,2,7,8,17,18]
abbrev arM:=J [I 21 7,I 22 8,I 23 8,a0 24 (.build [ae,ae,ae] [(0,(1,(ab 23))),(1,(1,(.const (.int .i64 (-1))))),(2,(1,(.const (.int .i64 (-1)))))]),bi 25 3 21 22,br 3 25 24] [1,2,7,17,18]
abbrev arN:=J [be 26 .add 18 1,I 18 26] [1,2,7,17,18]
abbrev arO:=J [bt 27 IF [.const (.dF j1 [])],I 9 27] [1,2,7,9]
abbrev arP:=J [I 28 9,I 29 2,a0 30 (.build [ae,ae,ae] [(0,(1,(ab 29)))]),bt 31 xW [ab 28,ab 30]] [1,7,9]
abbrev arQ:=J [I 33 9,bt 34 xV [ab 33],I 32 34,c_ 35 32 0,pJ 36 32 1,cy 10 [ae,ae,ae],br 3 10 35,aN 11 36] [1,7,9,10,11]
abbrev LB:a6:=ba 30 (J [I 39 7,I 6 39] [6])
theorem aD0(P:Program)(Q:Exit->aI->Mem->Prop)(s:aI)(M:Mem):dn P LB Q s M=@nn P [I 39 7,I 6 39] M ⟨s,fun aO ah=>Q .normal (g7 aO [6]) ah⟩:=rfl
abbrev Q9:a6:=ba 31 (al LB aR)
abbrev arS:=al (J [aN 37 11,cM 38 37] [1,7,9,10,38]) (aH 38 Q9 aC)
abbrev arT:=al (J [I 40 7,ai 41 0 10,am 42 41,bi 43 3 40 42,ai 44 2 43,am 45 44,bD 46 .geq 45 0] [1,7,9,10,46]) (aH 46 (bS 3) aC)
abbrev arU:=J [I 47 7,ai 48 0 10,am 49 48,aY 50 3 10,bi 51 3 47 49,br 3 51 50] [1,7,9,10]
abbrev arV:=J [I 52 1,ai 53 0 10,am 54 53,a0 55 (.lookup .int [c1] false false (ab 52) (ab 54)),bF 56 55,aQ 57 0] [1,7,9,10,55,56,57]
abbrev arW:=J [b0 58 .lss 57 56] [1,7,9,10,55,56,57,58]
abbrev arX:=J [bi 59 3 55 57,aY 60 3 59,cy 13 [ae,ae,ae],br 3 13 60] [1,7,9,10,13,55,56,57]
abbrev arY:=J [I 68 9,ai 69 1 13,am 70 69,ai 71 1 10,am 72 71,ai 73 2 13,am 74 73,b0 75 .add 72 74,ai 76 2 10,am 77 76,be 78 .add 77 1,a0 79 (.build [ae,ae,ae] [(0,(1,(ab 70))),(1,(1,(ab 75))),(2,(1,(ab 78)))]),bt 80 xW [ab 68,ab 79]] [1,7,9,10,55,56,57]
abbrev arZ:=al (J [I 61 7,ai 62 1 13,am 63 62,bi 64 3 61 63,ai 65 2 64,am 66 65,bD 67 .lss 66 0] [1,7,9,10,13,55,56,57,67]) (aH 67 arY aC)
abbrev ar1:=J [be 81 .add 57 1,I 57 81] [1,7,9,10,55,56,57]
def GM:bs:=⟨82,[(.tmp 6)],hM arK arR (al ar0 (bb 0 (cg [1,2,7,17,18] (cv ar2 (aH 19 aC (bS 0)) (bb 1 (al arL arM)) arN)))) arO arP (bb 2 (cg [1,7,9] (bb 3 (hM arQ arS arT arU arV (bb 4 (cg [1,7,9,10,55,56,57] (cv arW (aH 58 aC (bS 4)) (bb 5 (al arX arZ)) ar1)))))))⟩
theorem aF8:bB au (bE au Jj GM []) Jj=some GM:=by kernel_rfl
abbrev ar3:=J [I 10 1,be 11 .add 10 1,I 8 11] [0,1,2,3,8]
abbrev ar6:=al (J [I 12 8,I 13 2,bv 14 .lss 12 13] [0,1,2,3,8,14]) (aH 14 aC (bS 0))
abbrev ar7:=J [I 17 8,I 9 17] [0,1,2,3,8,9]
abbrev ar8:=al (di [I 18 9,I 19 1,bv 20 .gtr 18 19,aN 21 20,av 21 (I 22 3),av 21 (I 23 0),av 21 (I 24 9),av 21 (bi 25 4 23 24),av 21 (aY 26 4 25),av 21 (I 27 0),av 21 (I 28 9),av 21 (be 29 .sub 28 1),av 21 (bi 30 4 27 29),av 21 (aY 31 4 30),av 21 (a0 32 (.fX (ab 22) [ab 26,ab 31])),av 21 (bD 33 .lss 32 0),cG 34 21 33] [U,U,U,U,U,U,U,U,U,U,U,U,U,U,ff,U,U] [0,1,2,3,8,9,34]) (aH 34 aC (bS 2))
abbrev ar9:a6:=.float [I 37 0,I 38 9,I 39 0,I 40 9,be 41 .sub 40 1,I 42 0,I 43 9,be 44 .sub 43 1,bi 45 4 42 44,aY 46 4 45,I 47 0,I 48 9,bi 49 4 47 48,aY 50 4 49,bi 51 4 37 38,br 4 51 46,bi 52 4 39 41,br 4 52 50] [none,none,none,none,none,none,none,none,none,none,none,none,none,none,none,(some [2,3,4]),none,(some [])] [0,1,2,3,8,9]
abbrev ar4:=J [I 35 9,be 36 .sub 35 1,I 9 36] [0,1,2,3,8,9]
abbrev ar5:=J [I 15 8,be 16 .add 15 1,I 8 16] [0,1,2,3,8]
def GV:bs:=⟨53,[],al ar3 (bb 0 (cg [0,1,2,3,8] (cb ar6 (bb 1 (al ar7 (bb 2 (cg [0,1,2,3,8,9] (cb ar8 (bb 3 ar9) ar4))))) ar5)))⟩
theorem aGf:bB au (bE au Jp GV []) Jp=some GV:=by kernel_rfl
abbrev ar_:=J [aQ 8 0,aQ 9 0] [0,1,2,3]
abbrev asi:=J [I 15 2,I 16 1,b0 17 .sub 15 16,I 10 17] [0,1,3,10]
abbrev asp:=J [cy 11 [ae]] [0,1,3,10,11]
abbrev asq:=J [I 18 1,I 19 10,be 20 .quo 19 4,be 21 .mul 20 1,b0 22 .add 18 21,I 12 22] [0,1,3,10,11,12]
abbrev asr:=J [I 23 1,I 24 10,be 25 .quo 24 4,be 26 .mul 25 2,b0 27 .add 23 26,I 13 27] [0,1,3,10,11,12,13]
abbrev asa:=J [I 28 1,I 29 10,be 30 .quo 29 4,be 31 .mul 30 3,b0 32 .add 28 31,I 14 32] [0,3,10,11,12,13,14]
abbrev asb:=J [I 37 0,I 38 12,I 39 3,bt 40 Ag [ab 37,ab 38,ab 11,ab 39],I 12 40] [0,3,11,12,13,14]
abbrev asc:=J [I 41 0,I 42 13,I 43 3,bt 44 Ag [ab 41,ab 42,ab 11,ab 43],I 13 44] [0,3,11,12,13,14]
abbrev asd:=J [I 45 0,I 46 14,I 47 3,bt 48 Ag [ab 45,ab 46,ab 11,ab 47],I 14 48] [0,3,11,12,13,14]
abbrev ase:=al (J [I 35 10,bD 36 .geq 35 50] [0,3,11,12,13,14,36]) (aH 36 (cb asb asc asd) aC)
abbrev asf:=J [I 49 0,I 50 12,I 51 13,I 52 14,I 53 3,bt 54 D7 [ab 49,ab 50,ab 51,ab 52,ab 11,ab 53],I 13 54] [11,13]
abbrev asg:=al (J [I 33 10,bD 34 .geq 33 8] [0,3,10,11,12,13,14,34]) (aH 34 (al ase asf) aC)
abbrev ash:=J [am 55 11] [13,55]
abbrev asj:=J [I 59 13,I 8 59,aQ 9 1] [8,9]
abbrev asl:=J [I 62 13,I 8 62,aQ 9 2] [8,9]
abbrev asm:=J [I 56 13,I 8 56,aQ 9 0] [8,9]
abbrev asn:=al (J [bD 61 .eql 55 12,aN 60 61] [13,60]) (aH 60 (al asl aR) (al asm aR))
abbrev aso:=al (J [bD 58 .eql 55 0,aN 57 58] [13,55,57]) (aH 57 (al asj aR) asn)
def GS:bs:=⟨63,[(.tmp 8),(.tmp 9)],al ar_ (iL asi asp asq asr asa asg ash (bb 0 aso))⟩
theorem aGd:bB au (bE au Jn GS []) Jn=some GS:=by kernel_rfl
abbrev asx:=J [cl 8 cU] [0,1,2,3]
abbrev asF:=J [I 13 1,be 14 .add 13 1,I 9 14] [0,1,2,3,9]
abbrev asM:=J [aQ 10 0] [0,1,2,3,9,10]
abbrev asS:=al (J [I 15 10,bD 16 .lss 15 5] [0,1,2,3,9,10,16]) (aH 16 aC (bS 0))
abbrev asV:=al (di [I 19 9,I 20 2,bv 21 .lss 19 20,aN 22 21,av 22 (I 23 3),av 22 (I 24 0),av 22 (I 25 9),av 22 (bi 26 4 24 25),av 22 (aY 27 4 26),av 22 (I 28 0),av 22 (I 29 9),av 22 (be 30 .sub 29 1),av 22 (bi 31 4 28 30),av 22 (aY 32 4 31),av 22 (a0 33 (.fX (ab 23) [ab 27,ab 32])),av 22 (bD 34 .lss 33 0),av 22 (cM 35 34),cG 36 22 35] [U,U,U,U,U,U,U,U,U,U,U,U,U,U,ff,U,U,U] [0,1,2,3,9,10,36]) (aH 36 aC (bS 2))
abbrev asy:=J [I 37 9,be 38 .add 37 1,I 9 38] [0,1,2,3,9,10]
abbrev asz:=J [cl 8 fU] [8]
abbrev asA:=al (J [I 39 9,I 40 2,bv 41 .eql 39 40] [0,1,2,3,9,10,41]) (aH 41 (al asz aR) aC)
abbrev asB:=J [cl 8 cU] [8]
abbrev asC:=al (J [I 42 2,I 43 1,b0 44 .sub 42 43,bD 45 .lss 44 50] [0,1,2,3,9,10,45]) (aH 45 (al asB aR) aC)
abbrev asD:a6:=.float [I 46 0,I 47 9,I 48 0,I 49 9,be 50 .sub 49 1,I 51 0,I 52 9,be 53 .sub 52 1,bi 54 4 51 53,aY 55 4 54,I 56 0,I 57 9,bi 58 4 56 57,aY 59 4 58,bi 60 4 46 47,br 4 60 55,bi 61 4 48 50,br 4 61 59] [none,none,none,none,none,none,none,none,none,none,none,none,none,none,none,(some [2,3,4]),none,(some [])] [0,1,2,3,9,10]
abbrev asE:=J [I 66 9,be 67 .sub 66 1,I 11 67] [0,1,2,3,9,10,11]
abbrev asG:=al (J [I 68 11,bD 69 .geq 68 1] [0,1,2,3,9,10,11,69]) (aH 69 aC (bS 4))
abbrev asH:=al (di [I 72 3,I 73 0,I 74 11,bi 75 4 73 74,aY 76 4 75,I 77 0,I 78 11,be 79 .sub 78 1,bi 80 4 77 79,aY 81 4 80,a0 82 (.fX (ab 72) [ab 76,ab 81]),bD 83 .lss 82 0,cM 84 83] [U,U,U,U,U,U,U,U,U,U,ff,U,U] [0,1,2,3,9,10,11,84]) (aH 84 (bS 4) aC)
abbrev asI:a6:=.float [I 85 0,I 86 11,I 87 0,I 88 11,be 89 .sub 88 1,I 90 0,I 91 11,be 92 .sub 91 1,bi 93 4 90 92,aY 94 4 93,I 95 0,I 96 11,bi 97 4 95 96,aY 98 4 97,bi 99 4 85 86,br 4 99 94,bi 100 4 87 89,br 4 100 98] [none,none,none,none,none,none,none,none,none,none,none,none,none,none,none,(some [2,3,4]),none,(some [])] [0,1,2,3,9,10,11]
abbrev asJ:=J [I 70 11,be 71 .sub 70 1,I 11 71] [0,1,2,3,9,10,11]
abbrev asK:=al (J [I 62 9,I 63 1,b0 64 .sub 62 63,bD 65 .geq 64 2] [0,1,2,3,9,10,65]) (aH 65 (al asE (bb 4 (cg [0,1,2,3,9,10,11] (cb asG (bb 5 (al asH asI)) asJ)))) aC)
abbrev asL:=J [I 105 9,be 106 .add 105 1,I 12 106] [0,1,2,3,9,10,12]
abbrev asN:=al (J [I 107 12,I 108 2,bv 109 .lss 107 108] [0,1,2,3,9,10,12,109]) (aH 109 aC (bS 6))
abbrev asO:=al (di [I 112 3,I 113 0,I 114 12,bi 115 4 113 114,aY 116 4 115,I 117 0,I 118 12,be 119 .sub 118 1,bi 120 4 117 119,aY 121 4 120,a0 122 (.fX (ab 112) [ab 116,ab 121]),bD 123 .lss 122 0,cM 124 123] [U,U,U,U,U,U,U,U,U,U,ff,U,U] [0,1,2,3,9,10,12,124]) (aH 124 (bS 6) aC)
abbrev asP:a6:=.float [I 125 0,I 126 12,I 127 0,I 128 12,be 129 .sub 128 1,I 130 0,I 131 12,be 132 .sub 131 1,bi 133 4 130 132,aY 134 4 133,I 135 0,I 136 12,bi 137 4 135 136,aY 138 4 137,bi 139 4 125 126,br 4 139 134,bi 140 4 127 129,br 4 140 138] [none,none,none,none,none,none,none,none,none,none,none,none,none,none,none,(some [2,3,4]),none,(some [])] [0,1,2,3,9,10,12]
abbrev asQ:=J [I 110 12,be 111 .add 110 1,I 12 111] [0,1,2,3,9,10,12]
abbrev asR:=al (J [I 101 2,I 102 9,b0 103 .sub 101 102,bD 104 .geq 103 2] [0,1,2,3,9,10,104]) (aH 104 (al asL (bb 6 (cg [0,1,2,3,9,10,12] (cb asN (bb 7 (al asO asP)) asQ)))) aC)
abbrev asT:=J [I 17 10,be 18 .add 17 1,I 10 18] [0,1,2,3,9,10]
abbrev asU:=J [cl 8 cU] [8]
def G3:bs:=⟨141,[(.tmp 8)],f3 asx asF (al asM (bb 0 (cg [0,1,2,3,9,10] (cb asS (bb 1 (hM (bb 2 (cg [0,1,2,3,9,10] (al asV (bb 3 asy)))) asA asC asD asK asR)) asT)))) asU aR⟩
theorem aGn:bB au (bE au Jr G3 []) Jr=some G3:=by kernel_rfl
abbrev asW:=J [cl 3 cU] [0,1]
abbrev asX:=J [I 4 0,bD 5 .lss 4 0,aN 6 5,ax 6 (I 7 0),ax 6 (am 8 1),ax 6 (bv 9 .geq 7 8),cC 10 6 9,aN 3 10] [3]
def GL:bs:=⟨11,[(.tmp 3)],cb asW asX aR⟩
theorem aF6:bB au (bE au Af GL []) Af=some GL:=by kernel_rfl
abbrev asY:=J [d9 2 (.const .dE)] [0]
abbrev asZ:=J [d9 2 (.const .dE)] [2]
abbrev as0:=al (J [I 3 0,d8 4 (.bin .eql .fn (ab 3) (.const .gz))] [0,4]) (aH 4 (al asZ aR) aC)
abbrev as1:=J [I 5 0,a0 6 (.build [.gz,c1,ae] [(0,(1,(ab 5)))]),cu 7 3 6,I 2 7] [2]
def Gw:bs:=⟨8,[(.tmp 2)],cv asY as0 as1 aR⟩
theorem aFL:bB au (bE au IF Gw []) IF=some Gw:=by kernel_rfl
abbrev as2:=J [cu 2 3 0,cu 3 3 1,cl 4 cU] [2,3]
abbrev as3:=J [ai 5 1 2,am 6 5,ai 7 1 3,am 8 7,bv 9 .lss 6 8,aN 10 9,ax 10 (ai 11 1 2),ax 10 (am 12 11),ax 10 (ai 13 1 3),ax 10 (am 14 13),ax 10 (bv 15 .eql 12 14),ax 10 (aN 16 15),av 16 (ai 17 2 2),av 16 (am 18 17),av 16 (ai 19 2 3),av 16 (am 20 19),av 16 (bv 21 .lss 18 20),ax 10 (cG 22 16 21),cC 23 10 22,aN 4 23] [4]
def GO:bs:=⟨24,[(.tmp 4)],cb as2 as3 aR⟩
theorem aF_:bB au (bE au j1 GO []) j1=some GO:=by kernel_rfl
abbrev as4:=J [cu 3 3 1] [0,3]
abbrev as9:=al (J [I 5 0,d8 6 (.bin .eql .ptr (ab 5) (.const .dE))] [0,3,6]) (aH 6 aR aC)
abbrev as_:a6:=.float [I 7 0,I 8 0,b2 9 8,ai 10 1 9,am 11 10,aY 12 3 3,I 13 0,b2 14 13,ai 15 2 14,am 16 15,a0 17 (.build [ae,ae,ae,ae] [(0,(3,(ab 12))),(3,(1,(ab 16)))]),a0 18 (.buildSlice [ae,ae,ae,ae] 4 1 [(0,(4,(ab 17)))]),hR 19 4 32 11 18,b2 20 7,ai 21 1 20,br 1 21 19] [none,none,none,none,none,none,none,none,none,none,none,none,(some [0]),none,none,(some [])] [0]
abbrev ata:=J [I 22 0,b2 23 22,ai 24 2 23,am 25 24,be 26 .add 25 1,b2 27 22,ai 28 2 27,br 1 28 26] [0]
abbrev atb:=J [I 29 0,b2 30 29,ai 31 1 30,am 32 31,bF 33 32,be 34 .sub 33 1,I 4 34] [0,4]
abbrev as5:=al (J [I 35 4,bD 36 .gtr 35 0,aN 37 36,av 37 (I 38 0),av 37 (I 39 4),av 37 (I 40 4),av 37 (be 41 .sub 40 1),av 37 (be 42 .quo 41 2),av 37 (cW 43 xX [ab 38,ab 39,ab 42]),cG 44 37 43] [0,4,44]) (aH 44 aC (bS 0))
abbrev as6:=J [I 48 0,I 49 4,I 50 4,be 51 .sub 50 1,be 52 .quo 51 2,bt 53 vS [ab 48,ab 49,ab 52]] [0,4]
abbrev as7:=J [I 45 4,be 46 .sub 45 1,be 47 .quo 46 2,I 4 47] [0,4]
abbrev as8:a6:=ba 19 (cg [0,4] (cb as5 (bb 1 as6) as7))
abbrev Q_:a6:=ba 20 (bb 0 as8)
def zu:bs:=⟨54,[],hM as4 as9 as_ ata atb Q_⟩
theorem S2:bB au (bE au xW zu []) xW=some zu:=by kernel_rfl
abbrev atc:=J [cy 2 [ae,ae,ae],cl 3 cU] [0,2]
abbrev ati:=J [I 8 0,bt 9 z9 [ab 8],I 7 9,c_ 10 7 0,pJ 11 7 1,cy 4 [ae,ae,ae],br 3 4 10,aN 5 11] [0,2,4,5]
abbrev atj:=J [aY 14 3 4,br 3 2 14,cl 3 cU] [2,3]
abbrev atk:=al (J [aN 12 5,cM 13 12] [0,2,4,13]) (aH 13 (al atj aR) aC)
abbrev atd:=J [I 15 0,b2 16 15,ai 17 1 16,am 18 17,bF 19 18,be 20 .sub 19 1,I 6 20] [0,2,4,6]
abbrev ate:=J [I 21 0,I 22 6,bt 23 vS [ab 21,bX 0,ab 22]] [0,2,4,6]
abbrev atf:=J [I 24 0,I 25 0,b2 26 25,ai 27 1 26,am 28 27,I 29 6,a0 30 (.slice 4 (ab 28) none (some (ab 29)) none),b2 31 24,ai 32 1 31,br 1 32 30] [0,2,4]
abbrev atg:=J [I 33 0,bt 34 DX [ab 33]] [2,4]
abbrev ath:=J [aY 35 3 4,br 3 2 35,cl 3 fU] [2,3]
def zt:bs:=⟨36,[(.cell 2 3 true),(.tmp 3)],al atc (iL ati atk atd ate atf atg ath aR)⟩
theorem S1:bB au (bE au xV zt []) xV=some zt:=by kernel_rfl
abbrev atq:=J [aQ 8 0] [0,1,2,3]
abbrev atr:=J [I 9 0,I 10 1,be 11 .sub 10 1,I 12 1,I 13 1,be 14 .add 13 1,I 15 2,I 16 3,bt 17 D7 [ab 9,ab 11,ab 12,ab 14,ab 15,ab 16],I 8 17] [8]
def GX:bs:=⟨18,[(.tmp 8)],cb atq atr aR⟩
theorem aGh:bB au (bE au Ag GX []) Ag=some GX:=by kernel_rfl
abbrev ats:=J [aQ 12 0] [0,1,2,3,4,5]
abbrev att:=J [I 14 0,I 15 1,I 16 2,I 17 4,I 18 5,bt 19 Ai [ab 14,ab 15,ab 16,ab 17,ab 18],I 13 19,c_ 20 13 0,c_ 21 13 1,I 1 20,I 2 21] [0,1,2,3,4,5]
abbrev atu:=J [I 23 0,I 24 2,I 25 3,I 26 4,I 27 5,bt 28 Ai [ab 23,ab 24,ab 25,ab 26,ab 27],I 22 28,c_ 29 22 0,c_ 30 22 1,I 2 29,I 3 30] [0,1,2,4,5]
abbrev atv:=J [I 32 0,I 33 1,I 34 2,I 35 4,I 36 5,bt 37 Ai [ab 32,ab 33,ab 34,ab 35,ab 36],I 31 37,c_ 38 31 0,c_ 39 31 1,I 1 38,I 2 39] [2]
abbrev atw:=J [I 40 2,I 12 40] [12]
def GZ:bs:=⟨41,[(.tmp 12)],hM ats att atu atv atw aR⟩
theorem aGj:bB au (bE au D7 GZ []) D7=some GZ:=by kernel_rfl
abbrev atx:=J [cl 6 cU] [0,1,2]
abbrev atB:a6:=.float [I 9 0,b2 10 9,ai 11 1 10,am 12 11,I 13 1,bi 14 4 12 13,aY 15 4 14,I 16 0,b2 17 16,ai 18 1 17,am 19 18,I 20 2,bi 21 4 19 20,aY 22 4 21,cy 7 [ae,ae,ae,ae],cy 8 [ae,ae,ae,ae],br 4 7 15,br 4 8 22] [none,none,none,none,none,none,none,none,none,none,none,none,none,none,(some [0,1,2,3,4,5,6,7,8,9,10,11,12,13]),(some [0,1,2,3,4,5,6,7,8,9,10,11,12,13]),(some [7,8,9,10,11,12,13]),(some [])] [0,7,8]
abbrev atC:=J [cl 6 fU] [6]
abbrev atD:=al (di [I 23 0,b2 24 23,ai 25 0 24,am 26 25,ai 27 0 7,aY 28 3 27,ai 29 0 8,aY 30 3 29,d8 31 (.fX (ab 26) [ab 28,ab 30])] [U,U,U,U,U,U,U,U,ff] [0,7,8,31]) (aH 31 (al atC aR) aC)
abbrev aty:=J [cl 6 cU] [6]
abbrev atz:=al (di [I 32 0,b2 33 32,ai 34 0 33,am 35 34,ai 36 0 8,aY 37 3 36,ai 38 0 7,aY 39 3 38,d8 40 (.fX (ab 35) [ab 37,ab 39])] [U,U,U,U,U,U,U,U,ff] [7,8,40]) (aH 40 (al aty aR) aC)
abbrev atA:=J [ai 41 3 7,am 42 41,ai 43 3 8,am 44 43,bv 45 .lss 42 44,aN 6 45] [6]
def Gt:bs:=⟨46,[(.tmp 6)],hM atx atB atD atz atA aR⟩
theorem aFI:bB au (bE au xX Gt []) xX=some Gt:=by kernel_rfl
abbrev atE:a6:=.float [I 6 0,b2 7 6,ai 8 1 7,am 9 8,I 10 1,I 11 0,b2 12 11,ai 13 1 12,am 14 13,I 15 2,I 16 0,b2 17 16,ai 18 1 17,am 19 18,I 20 2,bi 21 4 19 20,aY 22 4 21,I 23 0,b2 24 23,ai 25 1 24,am 26 25,I 27 1,bi 28 4 26 27,aY 29 4 28,bi 30 4 9 10,br 4 30 22,bi 31 4 14 15,br 4 31 29] [none,none,none,none,none,none,none,none,none,none,none,none,none,none,none,none,none,none,none,none,none,none,none,none,none,(some [9]),none,(some [])] []
def Gv:bs:=⟨32,[],atE⟩
theorem aFK:bB au (bE au vS Gv []) vS=some Gv:=by kernel_rfl
abbrev atF:=J [cy 2 [ae,ae,ae],cl 3 cU] [0,2]
abbrev atH:=J [cy 4 [ae,ae,ae]] [0,2,4]
abbrev atI:=J [aY 8 3 4,br 3 2 8,cl 3 cU] [2,3]
abbrev atJ:=al (J [I 5 0,bt 6 DW [ab 5],bD 7 .eql 6 0] [0,2,4,7]) (aH 7 (al atI aR) aC)
abbrev atG:=J [I 9 0,b2 10 9,ai 11 1 10,am 12 11,a0 13 (.mH 4 (ab 12) (bX 0)),ai 14 0 13,aY 15 3 14,br 3 2 15,cl 3 fU] [2,3]
def Gs:bs:=⟨16,[(.cell 2 3 true),(.tmp 3)],f3 atF atH atJ atG aR⟩
theorem aFH:bB au (bE au z9 Gs []) z9=some Gs:=by kernel_rfl
abbrev atK:=J [aQ 2 0] [0,2]
abbrev atO:=J [I 4 2,a0 5 (.bin .mul .none (bX 2) (ab 4)),be 6 .add 5 1,I 3 6] [0,2,3]
abbrev atP:=al (J [I 7 3,I 8 0,b2 9 8,ai 10 1 9,am 11 10,bF 12 11,bv 13 .geq 7 12] [0,2,3,13]) (aH 13 aR aC)
abbrev atQ:=J [I 29 3,be 30 .add 29 1,I 3 30] [0,2,3]
abbrev atR:=al (J [I 14 3,be 15 .add 14 1,I 16 0,b2 17 16,ai 18 1 17,am 19 18,bF 20 19,bv 21 .lss 15 20,aN 22 21,av 22 (I 23 0),av 22 (I 24 3),av 22 (be 25 .add 24 1),av 22 (I 26 3),av 22 (cW 27 xX [ab 23,ab 25,ab 26]),cG 28 22 27] [0,2,3,28]) (aH 28 atQ aC)
abbrev atL:=al (J [I 31 0,I 32 3,I 33 2,cW 34 xX [ab 31,ab 32,ab 33],cM 35 34] [0,2,3,35]) (aH 35 aR aC)
abbrev atM:=J [I 36 0,I 37 2,I 38 3,bt 39 vS [ab 36,ab 37,ab 38]] [0,3]
abbrev atN:=J [I 40 3,I 2 40] [0,2]
def Gu:bs:=⟨41,[],al atK (bb 0 (cg [0,2] (bb 1 (hM atO atP atR atL atM atN))))⟩
theorem aFJ:bB au (bE au DX Gu []) DX=some Gu:=by kernel_rfl
abbrev atS:=J [aQ 10 0,aQ 11 0] [0,1,2,3,4]
abbrev atU:=J [I 23 3,b2 24 23,am 25 24,be 26 .add 25 1,b2 27 23,br 1 27 26] [1,2]
abbrev atV:=J [I 28 2,I 29 1,I 10 28,I 11 29] [10,11]
abbrev atW:=al (di [I 12 4,I 13 0,I 14 2,bi 15 4 13 14,aY 16 4 15,I 17 0,I 18 1,bi 19 4 17 18,aY 20 4 19,a0 21 (.fX (ab 12) [ab 16,ab 20]),bD 22 .lss 21 0] [U,U,U,U,U,U,U,U,U,ff,U] [1,2,3,22]) (aH 22 (cb atU atV aR) aC)
abbrev atT:=J [I 30 1,I 31 2,I 10 30,I 11 31] [10,11]
def G1:bs:=⟨32,[(.tmp 10),(.tmp 11)],cv atS atW atT aR⟩
theorem aGl:bB au (bE au Ai G1 []) Ai=some G1:=by kernel_rfl
abbrev atX:=J [aQ 2 0] [0]
abbrev atY:=J [aQ 2 0] [2]
abbrev atZ:=al (J [I 3 0,d8 4 (.bin .eql .ptr (ab 3) (.const .dE))] [0,4]) (aH 4 (al atY aR) aC)
abbrev at0:=J [I 5 0,b2 6 5,ai 7 1 6,am 8 7,bF 9 8,I 2 9] [2]
def Gr:bs:=⟨10,[(.tmp 2)],cv atX atZ at0 aR⟩
theorem aFG:bB au (bE au DW Gr []) DW=some Gr:=by kernel_rfl
end Go.aL.C
namespace Go.aL.C
open Go.aL
abbrev ai_:=J [cu 2 9 0,cu 3 10 1,d9 4 fu,aQ 5 0] [2,3]
abbrev ajj:=J [aY 11 9 2,aY 12 10 3,bt 13 Iu [ab 11,ab 12],I 10 13,c_ 14 10 0,c_ 15 10 1,cy 6 [c1,c1,c1,c1,c1,c1,ae,ae,ae],br 9 6 14,I 7 15] [2,3,6,7]
abbrev ajl:=J [aY 18 9 2,aY 19 10 3,bt 20 DS [ab 18,ab 19],d9 4 fu,I 5 20] [4,5]
abbrev ajm:a6:=ba 8 (al (J [I 16 7,bD 17 .neq 16 0] [2,3,6,17]) (aH 17 (al ajl aR) aC))
abbrev aja:=J [d9 4 fu,aQ 5 22] [4,5]
abbrev ajb:a6:=ba 13 (al (J [ai 21 3 3,eJ 22 21] [2,3,6,22]) (aH 22 (al aja aR) aC))
abbrev ajc:a6:=ba 15 (J [ai 24 5 2,aY 25 4 24,bt 26 DO [ab 25],I 23 26,c_ 27 23 0,c_ 28 23 1,I 8 27,I 7 28] [3,6,7,8])
abbrev ajd:=J [I 31 7,d9 4 fu,I 5 31] [4,5]
abbrev aje:a6:=ba 20 (al (J [I 29 7,bD 30 .neq 29 0] [3,6,7,8,30]) (aH 30 (al ajd aR) aC))
abbrev ajf:a6:=ba 22 (J [aY 32 9 6,aY 33 10 3,a0 34 (.makeMap none),a0 35 (.build [c1,c1,c1,c1,c1,c1,ae,ae,ae,ae,ae,ae,b3,ae,ae,b3,b3,ae,b3,.jJ,.dE,c1] [(0,(9,(ab 32))),(9,(10,(ab 33))),(19,(1,(ab 34)))]),cu 36 22 35,I 9 36] [3,8,9])
abbrev ajg:a6:=ba 24 (J [I 37 9,I 38 9,I 39 9,b2 40 37,ai 41 9 40,ai 42 6 41,lP (.store 1 (ab 42) cU),b2 43 38,ai 44 9 43,ai 45 7 44,lP (.store 1 (ab 45) cU),b2 46 39,ai 47 9 46,ai 48 8 47,lP (.store 1 (ab 48) (bX 0))] [3,8,9])
abbrev ajh:a6:=ba 26 (J [I 49 9,bt 50 IE [.const (.dF kr [])],b2 51 49,ai 52 20 51,br 1 52 50] [3,8,9])
abbrev aji:a6:=ba 28 (J [I 53 9,I 54 8,bt 55 Jd [ab 53,ab 54]] [3,9])
abbrev ajk:a6:=ba 30 (.float [aY 56 10 3,I 57 9,b2 58 57,ai 59 21 58,a0 60 (.um (ab 59)),bt 61 I_ [ab 56,ab 60],I 4 61,aQ 5 0] [none,none,none,none,(some [0]),(some []),none,none] [4,5])
def CA:bs:=⟨62,[(.tmp 4),(.tmp 5)],f3 ai_ ajj ajm ajb (iL ajc aje ajf ajg ajh aji ajk aR)⟩
theorem Tq:bB au (bE au D3 CA [(13,[4])]) D3=some CA:=by kernel_rfl
abbrev auK:=J [cu 2 13 0,cu 3 13 1,cl 4 cU] [2,3]
abbrev auL:=J [ai 5 8 2,am 6 5,ai 7 8 3,am 8 7,bv 9 .lss 6 8,aN 4 9] [4]
def CB:bs:=⟨10,[(.tmp 4)],cb auK auL aR⟩
theorem Tp:bB au (bE au kr CB []) kr=some CB:=by kernel_rfl
abbrev auM:=di [I 6 0,I 7 0,b2 8 7,ai 9 9 8,ai 10 0 9,am 11 10,a0 12 (.build [ae,ae,ae,ae,ae,ae,ae,ae] [(0,(1,(.const (.int .i64 0)))),(1,(1,(ab 11)))]),I 13 0,b2 14 13,ai 15 9 14,ai 16 2 15,am 17 16,I 18 1,a0 19 (.build [ae,ae,ae,ae,ae,ae,ae,ae,ae,ae,ae,.dE,c1] [(0,(8,(ab 12))),(8,(1,(ab 17))),(11,(1,(ab 18)))]),bt 20 Ac [ab 6,ab 19]] [U,U,U,U,U,U,U,U,U,U,U,U,U,U,ff] [0]
abbrev auN:a6:=ba 3 (al (J [I 21 0,b2 22 21,ai 23 20 22,am 24 23,bt 25 z5 [ab 24],bD 26 .gtr 25 0] [0,26]) (aH 26 aC (bS 0)))
abbrev auO:a6:=ba 5 (J [I 28 0,b2 29 28,ai 30 20 29,am 31 30,bt 32 DV [ab 31],I 27 32,c_ 33 27 0,pJ 34 27 1,cy 4 [ae,ae,ae,ae,ae,ae,ae,ae,ae,ae,ae,.dE,c1],br 13 4 33,aN 5 34] [0,4])
abbrev auP:a6:=ba 7 (J [I 35 0,aY 36 13 4,bt 37 Jg [ab 35,ab 36]] [0])
def CJ:bs:=⟨38,[],al auM (bb 0 (cg [0] (al auN (bb 1 (al auO auP)))))⟩
theorem Tz:bB au (bE au Jd CJ []) Jd=some CJ:=by kernel_rfl
abbrev auQ:=J [cu 2 10 0,d9 4 fu] [1,2]
abbrev auX:=J [a0 5 (.pI 4)] [1,2,5]
abbrev au5:=J [I 13 1,bF 14 13,aQ 15 0] [1,2,5,13,14,15]
abbrev au8:=J [b0 16 .lss 15 14] [1,2,5,13,14,15,16]
abbrev auR:=J [bi 17 7 13 15,aY 18 7 17,cy 7 [c1,ae,ae,ae,ae,ae,c1],br 7 7 18] [1,2,5,7,13,14,15]
abbrev auS:=J [I 19 5,aY 20 10 2,ai 21 1 7,aY 22 5 21,bt 23 II [ab 20,ab 22],a0 24 (.buildSlice [ae,ae,ae,ae] 4 1 [(0,(4,(ab 23)))]),hR 25 4 32 19 24,I 5 25] [1,2,5,13,14,15]
abbrev auT:=J [be 26 .add 15 1,I 15 26] [1,2,5,13,14,15]
abbrev auU:=J [a0 8 (.pI 7)] [1,5,8]
abbrev auV:a6:=ba 26 (J [a0 27 (.rV (ab 5)),bt 28 I3 [ab 27],bF 29 28,aQ 30 0] [1,5,8,28,29,30])
abbrev auW:=J [b0 31 .lss 30 29] [1,5,8,28,29,30,31]
abbrev auY:=J [bi 32 4 28 30,aY 33 4 32,cy 10 [ae,ae,ae,ae],br 4 10 33] [1,5,8,10,28,29,30]
abbrev auZ:=J [I 34 1,bF 35 34,aQ 36 0] [1,5,8,10,28,29,30,34,35,36]
abbrev au0:=J [b0 37 .lss 36 35] [1,5,8,10,28,29,30,34,35,36,37]
abbrev au1:=J [I 38 36,bi 39 7 34 36,aY 40 7 39,cy 12 [c1,ae,ae,ae,ae,ae,c1],I 11 38,br 7 12 40] [1,5,8,10,11,12,28,29,30,34,35,36]
abbrev au2:=J [I 47 8,aY 48 7 12,a0 49 (.buildSlice [c1,ae,ae,ae,ae,ae,c1] 7 1 [(0,(7,(ab 48)))]),hR 50 7 88 47 49,I 8 50] [1,5,8,28,29,30]
abbrev au3:=al (di [I 41 5,I 42 11,bi 43 4 41 42,aY 44 4 43,aY 45 4 10,d8 46 (.bin .eql (.cells [.int,.int,.int,.int]) (ab 44) (ab 45))] [U,U,U,U,U,U] [1,5,8,10,12,28,29,30,34,35,36,46]) (aH 46 (al au2 (bS 4)) aC)
abbrev au4:=J [be 51 .add 36 1,I 36 51] [1,5,8,10,28,29,30,34,35,36]
abbrev au6:=J [be 52 .add 30 1,I 30 52] [1,5,8,28,29,30]
abbrev au7:a6:=ba 65 (J [I 53 8,I 4 53] [4])
def CD:bs:=⟨54,[(.tmp 4)],uh auQ auX (al au5 (bb 0 (cg [1,2,5,13,14,15] (cv au8 (aH 16 aC (bS 0)) (bb 1 (al auR auS)) auT)))) auU (al auV (bb 2 (cg [1,5,8,28,29,30] (cv auW (aH 31 aC (bS 2)) (bb 3 (cb auY auZ (bb 4 (cg [1,5,8,10,28,29,30,34,35,36] (cv au0 (aH 37 aC (bS 4)) (bb 5 (al au1 au3)) au4))))) au6)))) au7 aR⟩
theorem Ts:bB au (bE au I_ CD [(1,[0]),(7,[0]),(8,[0])]) I_=some CD:=by kernel_rfl
abbrev ayU:=J [cu 3 13 1] [0,3]
abbrev ayZ:=di [I 6 0,b2 7 6,ai 8 19 7,am 9 8,ai 10 0 3,aY 11 8 10,a0 12 (.lookup (.cells [.int,.int,.int,.int,.int,.int,.int,.int]) [c1] false false (ab 9) (ab 11)),bF 13 12,aQ 14 0] [U,U,U,U,U,U,U,U,U] [0,3,12,13,14]
abbrev ay0:=J [b0 15 .lss 14 13] [0,3,12,13,14,15]
abbrev ay1:=J [bi 16 13 12 14,aY 17 13 16,cy 5 [ae,ae,ae,ae,ae,ae,ae,ae,ae,ae,ae,.dE,c1],br 13 5 17] [0,3,5,12,13,14]
abbrev ayV:=al (J [aY 18 13 5,aY 19 13 3,cW 20 I9 [ab 18,ab 19]] [0,3,12,13,14,20]) (aH 20 aR aC)
abbrev ayW:=J [be 21 .add 14 1,I 14 21] [0,3,12,13,14]
abbrev ayX:a6:=ba 22 (.float [I 22 0,b2 23 22,ai 24 19 23,am 25 24,ai 26 0 3,aY 27 8 26,aY 29 13 3,a0 30 (.buildSlice [ae,ae,ae,ae,ae,ae,ae,ae,ae,ae,ae,.dE,c1] 13 1 [(0,(13,(ab 29)))]),a0 31 (.mapEntry (.cells [.int,.int,.int,.int,.int,.int,.int,.int]) (.slice [] .nil) (ab 25) (ab 27)),c_ 28 31 0,c_ 33 31 1,hR 32 13 120 28 30,lP (.entryStore (ab 25) (ab 33) (ab 32))] [none,none,none,none,none,none,none,none,(some []),none,none,(some [10]),(some [])] [0,3])
abbrev ayY:a6:=ba 24 (di [I 34 0,b2 35 34,ai 36 20 35,am 37 36,aY 38 13 3,bt 39 z6 [ab 37,ab 38]] [U,U,U,U,U,ff] [])
abbrev LC:a6:=ba 25 (al ayX ayY)
def tE:bs:=⟨40,[],cb ayU (al ayZ (bb 0 (cg [0,3,12,13,14] (cv ay0 (aH 15 aC (bS 0)) (bb 1 (al ay1 ayV)) ayW)))) LC⟩
theorem Tt:bB au (bE au Ac tE []) Ac=some tE:=by kernel_rfl
abbrev azj:=J [cu 3 13 1] [0,3]
abbrev azs:=J [ai 5 0 3,ai 6 0 5,am 7 6] [0,3,7]
abbrev azw:a6:=ba 5 (J [I 49 0,aY 50 13 3,bt 51 Jb [ab 49,ab 50]] [])
abbrev azx:a6:=ba 7 (J [I 63 0,aY 64 13 3,bt 65 xZ [ab 63,ab 64]] [0,3])
abbrev azy:a6:=ba 9 (al (di [ai 54 0 3,ai 55 1 54,am 56 55,I 57 0,b2 58 57,ai 59 9 58,ai 60 1 59,am 61 60,bv 62 .eql 56 61] [U,U,U,U,U,U,U,U,U] [0,3,62]) (aH 62 azx aC))
abbrev Rf:a6:=ba 11 (J [I 66 0,aY 67 13 3,ai 68 8 3,am 69 68,bt 70 Ad [ab 66,ab 67,ab 69]] [])
abbrev azk:a6:=ba 12 (al azy Rf)
abbrev azl:a6:=ba 14 (J [I 17 0,aY 18 13 3,bt 19 xZ [ab 17,ab 18]] [0,3])
abbrev azm:a6:=ba 16 (al (di [ai 8 0 3,ai 9 1 8,am 10 9,I 11 0,b2 12 11,ai 13 9 12,ai 14 1 13,am 15 14,bv 16 .eql 10 15] [U,U,U,U,U,U,U,U,U] [0,3,16]) (aH 16 azl aC))
abbrev azn:a6:=ba 18 (J [ai 20 8 3,am 21 20,I 4 21] [0,3,4])
abbrev azo:a6:=ba 20 (di [I 27 4,I 28 0,b2 29 28,ai 30 0 29,ai 31 0 30,am 32 31,ai 33 0 3,ai 34 1 33,am 35 34,bi 36 4 32 35,ai 37 3 36,am 38 37,b0 39 .add 27 38,I 4 39] [U,U,U,U,U,U,U,U,U,U,U,U,U,U] [0,3,4])
abbrev azp:a6:=ba 22 (al (J [I 22 0,b2 23 22,ai 24 9 23,ai 25 9 24,eJ 26 25] [0,3,4,26]) (aH 26 azo aC))
abbrev azq:a6:=ba 24 (J [I 40 0,aY 41 13 3,I 42 4,bt 43 Ad [ab 40,ab 41,ab 42]] [0,3])
abbrev azr:a6:=ba 26 (J [I 44 0,aY 45 13 3,bt 46 D5 [ab 44,ab 45]] [])
abbrev Rg:a6:=ba 27 (al azq azr)
abbrev Rh:a6:=ba 29 (cb azn azp Rg)
abbrev azt:a6:=ba 30 (al azm Rh)
abbrev azu:a6:=ba 32 (al (J [bD 53 .eql 7 2,aN 52 53] [0,3,52]) (aH 52 azk azt))
abbrev azv:=al (J [bD 48 .eql 7 1,aN 47 48] [0,3,7,47]) (aH 47 azw azu)
def CN:bs:=⟨71,[],cb azj azs (bb 0 azv)⟩
theorem TD:bB au (bE au Jg CN []) Jg=some CN:=by kernel_rfl
abbrev afG:=J [cu 2 13 0,cu 3 13 1,cl 4 cU] [2,3]
abbrev afH:=J [ai 5 8 2,am 6 5,ai 7 8 3,am 8 7,bv 9 .leq 6 8,aN 10 9,av 10 (ai 11 9 2),av 10 (am 12 11),av 10 (ai 13 9 3),av 10 (am 14 13),av 10 (bv 15 .leq 12 14),cG 16 10 15,aN 17 16,av 17 (ai 18 10 2),av 17 (am 19 18),av 17 (ai 20 10 3),av 17 (am 21 20),av 17 (bv 22 .leq 19 21),cG 23 17 22,aN 24 23,av 24 (ai 25 11 2),av 24 (am 26 25),av 24 (ai 27 11 3),av 24 (am 28 27),av 24 (cW 29 Io [ab 26,ab 28]),cG 30 24 29,aN 4 30] [4]
def CC:bs:=⟨31,[(.tmp 4)],cb afG afH aR⟩
theorem Tr:bB au (bE au I9 CC []) I9=some CC:=by kernel_rfl
abbrev af6:=J [cu 3 13 1] [0,3]
abbrev agb:=J [I 6 0,aY 7 13 3,bt 8 Je [ab 6,ab 7]] [0,3]
abbrev agc:a6:=ba 5 (al (di [I 9 0,b2 10 9,ai 11 0 10,ai 12 2 11,am 13 12,ai 14 0 3,ai 15 2 14,am 16 15,bi 17 8 13 16,ai 18 7 17,am 19 18,ai 20 0 3,ai 21 3 20,am 22 21,bi 23 5 19 22,ai 24 4 23,eJ 25 24,cM 26 25] [U,U,U,U,U,U,U,U,U,U,U,U,U,U,U,U,U,U] [0,3,26]) (aH 26 aR aC))
abbrev agd:a6:=ba 7 (J [I 36 0,aY 37 13 3,bt 38 xZ [ab 36,ab 37]] [0,3])
abbrev age:a6:=ba 9 (al (di [ai 27 0 3,ai 28 1 27,am 29 28,I 30 0,b2 31 30,ai 32 9 31,ai 33 1 32,am 34 33,bv 35 .eql 29 34] [U,U,U,U,U,U,U,U,U] [0,3,35]) (aH 35 agd aC))
abbrev af7:a6:=ba 11 (J [ai 40 11 3,am 41 40,ai 42 0 3,ai 43 4 42,aY 44 4 43,bt 45 Ip [ab 41,ab 44],I 39 45,c_ 46 39 0,c_ 47 39 1,I 4 46,I 5 47] [0,3,4,5])
abbrev af8:a6:=ba 13 (al (J [I 48 5,bD 49 .neq 48 0] [0,3,4,49]) (aH 49 aR aC))
abbrev af9:a6:=ba 15 (J [I 50 4,ai 51 11 3,br 1 51 50] [0,3])
abbrev af_:a6:=ba 17 (di [I 52 0,aY 53 13 3,ai 54 8 3,am 55 54,I 56 0,b2 57 56,ai 58 0 57,ai 59 0 58,am 60 59,ai 61 0 3,ai 62 1 61,am 63 62,bi 64 4 60 63,ai 65 3 64,am 66 65,b0 67 .add 55 66,bt 68 Ad [ab 52,ab 53,ab 67]] [U,U,U,U,U,U,U,U,U,U,U,U,U,U,U,U,ff] [0,3])
abbrev aga:a6:=ba 19 (J [I 69 0,aY 70 13 3,bt 71 D5 [ab 69,ab 70]] [])
abbrev QZ:a6:=ba 23 (f3 af7 af8 af9 af_ aga)
def CG:bs:=⟨72,[],f3 af6 agb agc age QZ⟩
theorem Tw:bB au (bE au Jb CG []) Jb=some CG:=by kernel_rfl
abbrev agf:=J [cu 3 13 1] [0,3]
abbrev agj:a6:=.float [ai 8 12 3,am 9 8,a0 10 (.build [b3,ae,ae,ae,ae,ae,ae,ae,b3] []),bt 11 Ae [ab 9,ab 10],ai 12 12 3,am 13 12,bF 14 13,a0 15 (.slice 9 (ab 11) none (some (ab 14)) none),a0 16 (.build [c1] [(0,(1,(ab 15)))]),cy 4 [c1],br 1 4 16] [none,none,none,none,none,none,none,none,none,(some [0,1,2,3,4,5,6,7,8]),(some [])] [0,4]
abbrev agk:a6:=ba 5 (.float [I 18 0,b2 19 18,ai 20 0 19,aY 21 9 20,I 22 0,b2 23 22,ai 24 9 23,aY 25 10 24,aY 26 1 4,bt 27 IG [ab 21,ab 25,ab 26],I 17 27,c_ 28 17 0,c_ 29 17 1,c_ 30 17 2,cy 5 [ae,ae,ae,ae,ae],br 5 5 28,I 6 29,I 7 30] [none,none,none,none,none,none,none,none,none,none,none,none,none,none,(some [0,1,2,3,4,5,6,7,8,9,10,11,12,13]),(some [12,13]),none,none] [0,4,5,6,7])
abbrev agl:a6:=ba 7 (.float [I 33 0,I 34 0,b2 35 34,ai 36 21 35,am 37 36,aY 38 1 4,aY 39 5 5,I 40 6,a0 41 (.build [c1,ae,ae,ae,ae,ae,c1] [(0,(1,(ab 38))),(1,(5,(ab 39))),(6,(1,(ab 40)))]),a0 42 (.buildSlice [c1,ae,ae,ae,ae,ae,c1] 7 1 [(0,(7,(ab 41)))]),hR 43 7 88 37 42,b2 44 33,ai 45 21 44,br 1 45 43] [none,none,none,none,none,none,none,none,none,none,(some [0]),none,none,(some [])] [])
abbrev agm:a6:=ba 9 (al (J [I 31 7,bD 32 .eql 31 0] [0,4,5,6,32]) (aH 32 agl aC))
abbrev agh:a6:=ba 10 (al agk agm)
abbrev agi:a6:=ba 11 (al agj agh)
def CH:bs:=⟨46,[],al agf agi⟩
theorem Tx:bB au (bE au xZ CH [(1,[9998]),(2,[9998]),(4,[9998])]) xZ=some CH:=by kernel_rfl
abbrev agn:=J [cu 4 13 1] [0,2,4]
abbrev agv:=J [I 10 0,b2 11 10,ai 12 0 11,ai 13 2 12,am 14 13,bF 15 14,aQ 16 0] [0,2,4,14,15,16]
abbrev agx:a6:=ba 5 (J [b0 17 .lss 16 15] [0,2,4,14,15,16,17])
abbrev agy:a6:=ba 8 (J [I 18 16,bi 19 8 14 16,aY 20 8 19,cy 7 [ae,ae,ae,.str [],ae,b3,b3,c1],I 6 18,br 8 7 20] [0,2,4,6,7,14,15,16])
abbrev ago:a6:=ba 10 (J [ai 21 7 7,am 22 21,bF 23 22,aQ 24 0] [0,2,4,6,7,14,15,16,22,23,24])
abbrev agp:a6:=ba 12 (J [b0 25 .lss 24 23] [0,2,4,6,7,14,15,16,22,23,24,25])
abbrev agq:a6:=ba 15 (J [I 26 24,bi 27 5 22 24,aY 28 5 27,cy 9 [ae,ae,ae,b3,b3],I 8 26,br 5 9 28] [0,2,4,6,7,8,9,14,15,16,22,23,24])
abbrev agr:a6:=ba 17 (al (J [ai 29 6 7,eJ 30 29,aN 31 30,ax 31 (ai 32 3 9),ax 31 (eJ 33 32),ax 31 (cM 34 33),cC 35 31 34,aN 36 35,ax 36 (ai 37 0 9),ax 36 (am 38 37),ax 36 (ai 39 0 4),ax 36 (ai 40 1 39),ax 36 (am 41 40),ax 36 (bv 42 .neq 38 41),cC 43 36 42,aN 44 43,ax 44 (I 45 8),ax 44 (be 46 .add 45 1),ax 44 (ai 47 7 7),ax 44 (am 48 47),ax 44 (bF 49 48),ax 44 (bv 50 .eql 46 49),cC 51 44 50] [0,2,4,6,7,8,9,14,15,16,22,23,24,51]) (aH 51 (bS 3) aC))
abbrev ags:a6:=ba 19 (J [I 70 0,aY 71 13 4,I 72 6,I 73 8,bt 74 Ja [ab 70,ab 71,ab 72,ab 73]] [0,2,4,6,7,14,15,16,22,23,24])
abbrev agt:a6:=ba 21 (al (J [ai 52 2 9,am 53 52,I 54 2,bv 55 .geq 53 54,aN 56 55,ax 56 (ai 57 2 9),ax 56 (am 58 57),ax 56 (ai 59 8 4),ax 56 (am 60 59),ax 56 (bv 61 .geq 58 60),ax 56 (aN 62 61),av 62 (I 63 0),av 62 (aY 64 13 4),av 62 (I 65 6),av 62 (I 66 8),av 62 (cW 67 Jc [ab 63,ab 64,ab 65,ab 66]),ax 56 (cG 68 62 67),cC 69 56 68] [0,2,4,6,7,8,14,15,16,22,23,24,69]) (aH 69 ags aC))
abbrev agu:a6:=ba 26 (J [be 75 .add 24 1,I 24 75] [0,2,4,6,7,14,15,16,22,23,24])
abbrev agw:a6:=ba 36 (J [be 76 .add 16 1,I 16 76] [0,2,4,14,15,16])
def CF:bs:=⟨77,[],cb agn agv (bb 0 (cg [0,2,4,14,15,16] (cv agx (aH 17 aC (bS 0)) (bb 1 (cb agy ago (bb 2 (cg [0,2,4,6,7,14,15,16,22,23,24] (cv agp (aH 25 aC (bS 2)) (bb 3 (cb agq agr agt)) agu))))) agw)))⟩
theorem Tu:bB au (bE au Ad CF []) Ad=some CF:=by kernel_rfl
abbrev agz:=J [cu 3 13 1] [0,3]
abbrev agH:=J [I 7 0,b2 8 7,ai 9 0 8,ai 10 4 9,am 11 10,bF 12 11,aQ 13 0] [0,3,11,12,13]
abbrev agJ:a6:=ba 5 (J [b0 14 .lss 13 12] [0,3,11,12,13,14])
abbrev agK:a6:=ba 8 (J [bi 15 4 11 13,aY 16 4 15,cy 5 [ae,ae,ae,b3],br 4 5 16] [0,3,5,11,12,13])
abbrev agA:a6:=ba 10 (al (di [ai 17 0 5,am 18 17,ai 19 0 3,ai 20 1 19,am 21 20,bv 22 .neq 18 21,aN 23 22,ax 23 (ai 24 10 3),ax 23 (am 25 24),ax 23 (ai 26 2 5),ax 23 (am 27 26),ax 23 (b0 28 .add 25 27),ax 23 (I 29 0),ax 23 (b2 30 29),ax 23 (ai 31 9 30),ax 23 (ai 32 5 31),ax 23 (am 33 32),ax 23 (bv 34 .gtr 28 33),cC 35 23 34,aN 36 35,ax 36 (ai 37 8 3),ax 36 (am 38 37),ax 36 (ai 39 2 5),ax 36 (am 40 39),ax 36 (b0 41 .add 38 40),ax 36 (bD 42 .gtr 41 3155932800),cC 43 36 42] [U,U,U,U,U,U,U,U,U,U,U,U,U,U,U,U,U,U,U,U,U,U,U,U,U,U,U] [0,3,5,11,12,13,43]) (aH 43 (bS 1) aC))
abbrev agB:a6:=ba 12 (J [aY 44 13 3,cy 6 [ae,ae,ae,ae,ae,ae,ae,ae,ae,ae,ae,.dE,c1],br 13 6 44] [0,3,5,6,11,12,13])
abbrev agC:a6:=ba 14 (J [ai 45 1 5,am 46 45,a0 47 (.build [ae,ae,ae,ae,ae,ae,ae,ae] [(0,(1,(.const (.int .i64 2)))),(1,(1,(ab 46)))]),ai 48 0 6,br 8 48 47] [0,3,5,6,11,12,13])
abbrev agD:a6:=ba 16 (J [ai 49 8 3,am 50 49,ai 51 2 5,am 52 51,b0 53 .add 50 52,ai 54 8 6,br 1 54 53] [0,3,5,6,11,12,13])
abbrev agE:a6:=ba 18 (J [ai 55 10 3,am 56 55,ai 57 2 5,am 58 57,b0 59 .add 56 58,ai 60 10 6,br 1 60 59] [0,3,5,6,11,12,13])
abbrev agF:a6:=ba 20 (J [ai 61 12 3,am 62 61,ai 63 0 3,ai 64 1 63,am 65 64,ai 66 1 5,am 67 66,ai 68 8 3,am 69 68,ai 70 8 6,am 71 70,a0 72 (.build [b3,ae,ae,ae,ae,ae,ae,ae,b3] [(4,(1,(ab 65))),(5,(1,(ab 67))),(6,(1,(ab 69))),(7,(1,(ab 71)))]),bt 73 Ae [ab 62,ab 72],ai 74 12 6,br 1 74 73] [0,3,6,11,12,13])
abbrev agG:a6:=ba 22 (J [I 75 0,aY 76 13 6,bt 77 Ac [ab 75,ab 76]] [0,3,11,12,13])
abbrev agI:a6:=ba 32 (J [be 78 .add 13 1,I 13 78] [0,3,11,12,13])
def CO:bs:=⟨79,[],cb agz agH (bb 0 (cg [0,3,11,12,13] (cv agJ (aH 14 aC (bS 0)) (bb 1 (iL agK agA agB agC agD agE agF agG)) agI)))⟩
theorem TE:bB au (bE au D5 CO []) D5=some CO:=by kernel_rfl
abbrev ajL:=J [cu 3 13 1] [0,3]
abbrev ajR:=J [I 7 0,b2 8 7,ai 9 0 8,ai 10 3 9,am 11 10,bF 12 11,aQ 13 0] [0,3,11,12,13]
abbrev ajS:a6:=ba 5 (J [b0 14 .lss 13 12] [0,3,11,12,13,14])
abbrev ajT:a6:=ba 8 (J [bi 15 5 11 13,aY 16 5 15,cy 5 [ae,ae,ae,ae,b3],br 5 5 16] [0,3,5,11,12,13])
abbrev ajM:a6:=ba 10 (al (J [ai 17 4 5,eJ 18 17,cM 19 18,aN 20 19,ax 20 (ai 21 0 5),ax 20 (am 22 21),ax 20 (ai 23 0 3),ax 20 (ai 24 2 23),ax 20 (am 25 24),ax 20 (bv 26 .neq 22 25),cC 27 20 26,aN 28 27,ax 28 (ai 29 1 5),ax 28 (am 30 29),ax 28 (ai 31 0 3),ax 28 (ai 32 3 31),ax 28 (am 33 32),ax 28 (bv 34 .neq 30 33),cC 35 28 34] [0,3,5,11,12,13,35]) (aH 35 (bS 1) aC))
abbrev ajN:a6:=ba 12 (.float [I 36 0,b2 37 36,ai 38 0 37,ai 39 2 38,am 40 39,ai 41 2 5,am 42 41,bi 43 8 40 42,aY 44 8 43,cy 6 [ae,ae,ae,.str [],ae,b3,b3,c1],br 8 6 44] [none,none,none,none,none,none,none,none,none,(some [0,1,2,3,4,5,6,7,8]),(some [])] [0,3,5,6,11,12,13])
abbrev ajO:a6:=ba 14 (J [I 58 0,aY 59 13 3,ai 60 2 5,am 61 60,ai 62 0 3,ai 63 4 62,aY 64 4 63,bt 65 D4 [ab 58,ab 59,ab 61,bX 0,fU,ab 64]] [0,3,11,12,13])
abbrev ajP:a6:=ba 16 (al (di [ai 45 6 6,eJ 46 45,cM 47 46,aN 48 47,av 48 (ai 49 7 6),av 48 (am 50 49),av 48 (a0 51 (.mH 5 (ab 50) (bX 0))),av 48 (ai 52 2 51),av 48 (am 53 52),av 48 (ai 54 8 3),av 48 (am 55 54),av 48 (bv 56 .geq 53 55),cG 57 48 56] [U,U,U,U,U,U,U,U,U,U,U,U,U] [0,3,5,11,12,13,57]) (aH 57 ajO aC))
abbrev ajQ:a6:=ba 22 (J [be 66 .add 13 1,I 13 66] [0,3,11,12,13])
def CK:bs:=⟨67,[],cb ajL ajR (bb 0 (cg [0,3,11,12,13] (cv ajS (aH 14 aC (bS 0)) (bb 1 (cv ajT ajM ajN ajP)) ajQ)))⟩
theorem TA:bB au (bE au Je CK []) Je=some CK:=by kernel_rfl
abbrev ajU:=J [cu 3 9 1,d9 4 fu] [0,3]
abbrev ajV:=J [I 6 0,bF 7 6,be 8 .add 7 1,a0 9 (.makeSlice [b3,ae,ae,ae,ae,ae,ae,ae,b3] 9 72 (bX 0) (ab 8)),I 5 9] [0,3,5]
abbrev ajW:a6:=.float [I 10 5,I 11 0,aY 13 9 3,a0 14 (.buildSlice [b3,ae,ae,ae,ae,ae,ae,ae,b3] 9 1 [(0,(9,(ab 13)))]),hR 12 9 72 10 11,hR 15 9 72 12 14,I 4 15] [none,none,none,none,(some [2,3]),(some []),none] [4]
def CP:bs:=⟨16,[(.tmp 4)],cv ajU ajV ajW aR⟩
theorem TF:bB au (bE au Ae CP []) Ae=some CP:=by kernel_rfl
abbrev akr:=J [cu 5 13 1,cl 8 cU] [0,2,3,5]
abbrev akw:=J [I 11 0,b2 12 11,ai 13 0 12,ai 14 3 13,am 15 14,bF 16 15,aQ 17 0] [2,3,5,15,16,17]
abbrev akx:a6:=ba 5 (J [b0 18 .lss 17 16] [2,3,5,15,16,17,18])
abbrev aky:a6:=ba 8 (J [bi 19 5 15 17,aY 20 5 19,cy 10 [ae,ae,ae,ae,b3],br 5 10 20] [2,3,5,10,15,16,17])
abbrev aks:=J [cl 8 fU] [8]
abbrev akt:a6:=ba 13 (al (J [ai 21 4 10,eJ 22 21,cM 23 22,aN 24 23,av 24 (ai 25 0 5),av 24 (ai 26 0 25),av 24 (am 27 26),av 24 (bD 28 .eql 27 1),cG 29 24 28,aN 30 29,av 30 (ai 31 0 10),av 30 (am 32 31),av 30 (ai 33 0 5),av 30 (ai 34 2 33),av 30 (am 35 34),av 30 (bv 36 .eql 32 35),cG 37 30 36,aN 38 37,av 38 (ai 39 1 10),av 38 (am 40 39),av 38 (ai 41 0 5),av 38 (ai 42 3 41),av 38 (am 43 42),av 38 (bv 44 .eql 40 43),cG 45 38 44,aN 46 45,av 46 (ai 47 2 10),av 46 (am 48 47),av 46 (I 49 2),av 46 (bv 50 .eql 48 49),cG 51 46 50,aN 52 51,av 52 (ai 53 3 10),av 52 (am 54 53),av 52 (I 55 3),av 52 (bv 56 .eql 54 55),cG 57 52 56] [2,3,5,15,16,17,57]) (aH 57 (al aks aR) aC))
abbrev aku:a6:=ba 17 (J [be 58 .add 17 1,I 17 58] [2,3,5,15,16,17])
abbrev akv:a6:=ba 25 (J [cl 8 cU] [8])
def CI:bs:=⟨59,[(.tmp 8)],cv akr (al akw (bb 0 (cg [2,3,5,15,16,17] (cv akx (aH 18 aC (bS 0)) (bb 1 (al aky akt)) aku)))) akv aR⟩
theorem Ty:bB au (bE au Jc CI []) Jc=some CI:=by kernel_rfl
abbrev akz:=J [cu 5 13 1] [0,2,3,5]
abbrev akF:=al (di [ai 10 9 5,am 11 10,I 12 0,b2 13 12,ai 14 9 13,ai 15 4 14,am 16 15,bv 17 .eql 11 16] [U,U,U,U,U,U,U,U] [0,2,3,5,17]) (aH 17 aR aC)
abbrev akG:a6:=ba 5 (J [I 18 0,b2 19 18,ai 20 0 19,ai 21 2 20,am 22 21,I 23 2,bi 24 8 22 23,ai 25 7 24,am 26 25,I 27 3,bi 28 5 26 27,ai 29 2 28,am 30 29,I 8 30] [0,2,3,5,8])
abbrev akH:a6:=ba 7 (J [ai 31 9 5,am 32 31,be 33 .add 32 1,ai 34 9 5,br 1 34 33] [0,2,3,5,8])
abbrev akI:a6:=ba 9 (J [ai 47 12 5,am 48 47,a0 49 (.mH 9 (ab 48) (bX 0)),aY 50 9 49,cy 9 [b3,ae,ae,ae,ae,ae,ae,ae,b3],br 9 9 50] [0,2,3,5,8,9])
abbrev akA:a6:=ba 11 (J [ai 51 6 9,am 52 51,I 53 8,ai 54 7 9,am 55 54,b0 56 .sub 53 55,b0 57 .add 52 56,ai 58 6 9,br 1 58 57] [0,2,3,5,8,9])
abbrev akB:a6:=ba 13 (J [I 59 8,ai 60 7 9,br 1 60 59] [0,2,3,5,8,9])
abbrev akC:a6:=ba 15 (J [aY 61 9 9,a0 62 (.buildSlice [b3,ae,ae,ae,ae,ae,ae,ae,b3] 9 1 [(0,(9,(ab 61)))]),ai 63 12 5,br 1 63 62] [0,2,3,5,8])
abbrev akD:a6:=ba 20 (al (J [ai 35 12 5,am 36 35,bF 37 36,bD 38 .eql 37 1,aN 39 38,av 39 (ai 40 12 5),av 39 (am 41 40),av 39 (a0 42 (.mH 9 (ab 41) (bX 0))),av 39 (ai 43 0 42),av 39 (eJ 44 43),av 39 (cM 45 44),cG 46 39 45] [0,2,3,5,8,46]) (aH 46 (cv akI akA akB akC) aC))
abbrev akE:a6:=ba 22 (J [I 64 0,aY 65 13 5,I 66 2,I 67 3,I 68 8,a0 69 (.build [ae,ae,ae,ae] [(0,(1,(ab 68)))]),bt 70 D4 [ab 64,ab 65,ab 66,ab 67,cU,ab 69]] [])
def CE:bs:=⟨71,[],hM akz akF akG akH akD akE⟩
theorem Tv:bB au (bE au Ja CE []) Ja=some CE:=by kernel_rfl
abbrev aoG:=J [cu 7 13 1,cu 11 4 5] [0,2,3,4,7,11]
abbrev aoR:=J [I 16 0,b2 17 16,ai 18 0 17,ai 19 2 18,am 20 19,I 21 2,bi 22 8 20 21,aY 23 8 22,cy 12 [ae,ae,ae,.str [],ae,b3,b3,c1],br 8 12 23] [0,2,3,4,7,11,12]
abbrev aoW:=di [ai 24 3 11,am 25 24,I 26 0,b2 27 26,ai 28 0 27,ai 29 1 28,am 30 29,ai 31 4 12,am 32 31,bi 33 3 30 32,ai 34 1 33,am 35 34,a0 36 (.bin .shl .none (bX 1) (ab 35)),b0 37 .or 25 36,ai 38 3 11,br 1 38 37] [U,U,U,U,U,U,U,U,U,U,U,U,U,U,U,ff] [0,2,3,4,7,11,12]
abbrev aoX:=di [ai 39 2 11,am 40 39,I 41 0,b2 42 41,ai 43 0 42,ai 44 0 43,am 45 44,ai 46 7 12,am 47 46,I 48 3,bi 49 5 47 48,ai 50 0 49,am 51 50,bi 52 4 45 51,ai 53 1 52,am 54 53,a0 55 (.bin .shl .none (bX 1) (ab 54)),b0 56 .or 40 55,ai 57 2 11,br 1 57 56] [U,U,U,U,U,U,U,U,U,U,U,U,U,U,U,U,U,U,U,ff] [0,2,3,4,7,11,12]
abbrev aoY:=J [I 58 3,be 59 .add 58 1,I 13 59] [0,2,3,4,7,11,12,13]
abbrev aoH:a6:=ba 11 (al (J [I 60 13,ai 61 7 12,am 62 61,bF 63 62,bv 64 .lss 60 63] [0,2,3,4,7,11,12,13,64]) (aH 64 aC (bS 0)))
abbrev aoI:a6:=ba 13 (J [ai 67 7 12,am 68 67,I 69 13,bi 70 5 68 69,aY 71 5 70,cy 14 [ae,ae,ae,b3,b3],br 5 14 71] [0,2,3,4,7,11,12,13,14])
abbrev aoJ:a6:=ba 15 (di [ai 72 2 11,am 73 72,I 74 0,b2 75 74,ai 76 0 75,ai 77 0 76,am 78 77,ai 79 0 14,am 80 79,bi 81 4 78 80,ai 82 1 81,am 83 82,a0 84 (.bin .shl .none (bX 1) (ab 83)),b0 85 .or 73 84,ai 86 2 11,br 1 86 85] [U,U,U,U,U,U,U,U,U,U,U,U,U,U,U,ff] [0,2,3,4,7,11,12,13,14])
abbrev aoK:a6:=ba 17 (J [ai 87 1 14,am 88 87,ai 89 1 11,br 1 89 88] [0,2,3,4,7,11,12,13,14])
abbrev aoL:a6:=ba 19 (al (J [ai 90 4 14,eJ 91 90,cM 92 91,aN 93 92,av 93 (I 94 0),av 93 (I 95 2),av 93 (I 96 13),av 93 (cW 97 Jf [ab 94,ab 95,ab 96]),av 93 (cM 98 97),cG 99 93 98] [0,2,3,4,7,11,12,13,14,99]) (aH 99 (bS 1) aC))
abbrev aoM:a6:=ba 21 (J [aY 100 13 7,cy 15 [ae,ae,ae,ae,ae,ae,ae,ae,ae,ae,ae,.dE,c1],br 13 15 100] [0,2,3,4,7,11,12,13,14,15])
abbrev aoN:a6:=ba 23 (J [ai 101 0 14,am 102 101,I 103 2,I 104 13,aY 105 4 11,a0 106 (.build [ae,ae,ae,ae,ae,ae,ae,ae] [(0,(1,(.const (.int .i64 1)))),(1,(1,(ab 102))),(2,(1,(ab 103))),(3,(1,(ab 104))),(4,(4,(ab 105)))]),ai 107 0 15,br 8 107 106] [0,2,3,4,7,11,12,13,14,15])
abbrev aoO:a6:=ba 25 (J [ai 108 1 14,am 109 108,ai 110 8 15,br 1 110 109] [0,2,3,4,7,11,12,13,14,15])
abbrev aoP:a6:=ba 27 (di [ai 111 12 7,am 112 111,I 113 2,I 114 3,I 115 13,ai 116 7 12,am 117 116,I 118 3,bi 119 5 117 118,ai 120 0 119,am 121 120,ai 122 0 14,am 123 122,ai 124 7 12,am 125 124,I 126 3,bi 127 5 125 126,ai 128 2 127,am 129 128,ai 130 1 14,am 131 130,aN 132 4,a0 133 (.build [b3,ae,ae,ae,ae,ae,ae,ae,b3] [(0,(1,(.const (.bool true)))),(1,(1,(ab 113))),(2,(1,(ab 114))),(3,(1,(ab 115))),(4,(1,(ab 121))),(5,(1,(ab 123))),(6,(1,(ab 129))),(7,(1,(ab 131))),(8,(1,(ab 132)))]),bt 134 Ae [ab 112,ab 133],ai 135 12 15,br 1 135 134] [U,U,U,U,U,U,U,U,U,U,U,U,U,U,U,U,U,U,U,U,U,U,U,ff,U,ff] [0,2,3,4,7,11,12,13,15])
abbrev aoQ:a6:=ba 29 (J [I 136 0,aY 137 13 15,bt 138 Ac [ab 136,ab 137]] [0,2,3,4,7,11,12,13])
abbrev aoS:a6:=ba 30 (al aoP aoQ)
abbrev aoT:a6:=ba 31 (al aoO aoS)
abbrev aoU:a6:=ba 32 (al aoN aoT)
abbrev Q5:a6:=ba 33 (al aoM aoU)
abbrev aoV:=J [I 65 13,be 66 .add 65 1,I 13 66] [0,2,3,4,7,11,12,13]
def CM:bs:=⟨139,[],hM aoG aoR aoW aoX aoY (bb 0 (cg [0,2,3,4,7,11,12,13] (cb aoH (bb 1 (f3 aoI aoJ aoK aoL Q5)) aoV)))⟩
theorem TC:bB au (bE au D4 CM []) D4=some CM:=by kernel_rfl
abbrev aqe:=J [cl 6 cU] [0,1,2]
abbrev aqj:=J [I 9 0,b2 10 9,ai 11 0 10,ai 12 3 11,am 13 12,bF 14 13,aQ 15 0] [1,2,13,14,15]
abbrev aqk:=J [b0 16 .lss 15 14] [1,2,13,14,15,16]
abbrev aql:=J [bi 17 5 13 15,aY 18 5 17,cy 8 [ae,ae,ae,ae,b3],br 5 8 18] [1,2,8,13,14,15]
abbrev aqf:=J [cl 6 fU] [6]
abbrev aqg:=al (J [ai 19 4 8,eJ 20 19,aN 21 20,av 21 (ai 22 0 8),av 21 (am 23 22),av 21 (I 24 1),av 21 (bv 25 .eql 23 24),cG 26 21 25,aN 27 26,av 27 (ai 28 1 8),av 27 (am 29 28),av 27 (I 30 2),av 27 (bv 31 .eql 29 30),cG 32 27 31] [1,2,13,14,15,32]) (aH 32 (al aqf aR) aC)
abbrev aqh:=J [be 33 .add 15 1,I 15 33] [1,2,13,14,15]
abbrev aqi:=J [cl 6 cU] [6]
def CL:bs:=⟨34,[(.tmp 6)],cv aqe (al aqj (bb 0 (cg [1,2,13,14,15] (cv aqk (aH 16 aC (bS 0)) (bb 1 (al aql aqg)) aqh)))) aqi aR⟩
theorem TB:bB au (bE au Jf CL []) Jf=some CL:=by kernel_rfl
end Go.aL.C
namespace Go.aL.C
open Go.aL
abbrev aj9:=J [cu 2 9 0,cu 3 1 1,d9 4 fu,aQ 5 0] [2,3]
abbrev aki:=J [aY 15 9 2,bt 16 z_ [ab 15],I 14 16,c_ 17 14 0,c_ 18 14 1,c_ 19 14 2,I 6 17,I 7 18,I 8 19] [2,3,8]
abbrev ako:=J [d9 4 fu,aQ 5 21] [4,5]
abbrev akq:=al (J [I 20 8,bD 21 .neq 20 0] [2,3,21]) (aH 21 (al ako aR) aC)
abbrev aj_:=J [cy 9 [c1]] [2,3,9]
abbrev aka:=J [a0 22 (.lO DY [ab 2,ab 9]),I 10 22] [2,3,9,10]
abbrev akb:=J [cl 11 cU] [2,3,9,10,11]
abbrev akc:=J [ai 23 0 3,am 24 23,bF 25 24,aQ 26 0] [2,9,10,11,24,25,26]
abbrev akd:=J [b0 27 .lss 26 25] [2,9,10,11,24,25,26,27]
abbrev ake:=J [bi 28 9 24 26,aY 29 9 28,cy 13 [b3,ae,ae,ae,ae,ae,ae,ae,b3],br 9 13 29] [2,9,10,11,13,24,25,26]
abbrev akf:=J [d9 4 fu,aQ 5 9] [4,5]
abbrev akg:=al (J [ai 30 0 13,eJ 31 30,aN 32 31,av 32 (aY 33 9 2),av 32 (aY 34 9 13),av 32 (cW 35 IK [ab 33,ab 34]),av 32 (cM 36 35),cG 37 32 36] [2,9,10,11,13,24,25,26,37]) (aH 37 (al akf aR) aC)
abbrev akh:=J [d9 4 fu,aQ 5 19] [4,5]
abbrev akj:=al (J [ai 38 8 13,eJ 39 38,aN 40 39,av 40 (ai 41 0 13),av 40 (eJ 42 41),av 40 (cM 43 42),av 40 (aN 44 43),ax 44 (aN 45 11),ax 44 (cM 46 45),av 40 (cC 47 44 46),cG 48 40 47] [2,9,10,13,24,25,26,48]) (aH 48 (al akh aR) aC)
abbrev akk:=J [I 51 10,aY 52 9 13,a0 53 (.fX (ab 51) [ab 52])] [2,9,10,13,24,25,26]
abbrev akl:=al (J [ai 49 0 13,eJ 50 49] [2,9,10,13,24,25,26,50]) (aH 50 akk aC)
abbrev akm:=J [ai 54 0 13,eJ 55 54,aN 11 55] [2,9,10,11,24,25,26]
abbrev akn:=J [be 56 .add 26 1,I 26 56] [2,9,10,11,24,25,26]
abbrev akp:a6:=ba 53 (J [am 57 9,I 4 57,aQ 5 0] [4,5])
def Cb:bs:=⟨58,[(.tmp 4),(.tmp 5)],iL aj9 (al aki akq) aj_ aka akb (al akc (bb 0 (cg [2,9,10,11,24,25,26] (cv akd (aH 27 aC (bS 0)) (bb 1 (f3 ake akg akj akl akm)) akn)))) akp aR⟩
theorem S7:bB au (bE au IH Cb []) IH=some Cb:=by kernel_rfl
abbrev aue:=J [cu 2 9 0,cu 3 10 1,cy 4 [c1,c1,c1,c1,c1,c1,ae,ae,ae],aQ 5 0] [2,3,4]
abbrev aum:=J [aY 12 9 2,aY 13 10 3,bt 14 DS [ab 12,ab 13],I 6 14] [2,3,4,6]
abbrev aut:=J [a0 17 (.build [c1,c1,c1,c1,c1,c1,ae,ae,ae] []),I 18 6,br 9 4 17,I 5 18] [4,5]
abbrev aux:=al (J [I 15 6,bD 16 .neq 15 0] [2,3,4,6,16]) (aH 16 (al aut aR) aC)
abbrev auf:=J [aY 19 9 2,bt 20 D0 [ab 19],cy 7 [c1,c1,c1,c1,c1,c1,ae,ae,ae],br 9 7 20] [2,3,4,7]
abbrev aug:=J [ai 21 2 2,am 22 21,bF 23 22,aQ 24 0] [2,3,4,7,22,23,24]
abbrev auh:=J [b0 25 .lss 24 23] [2,3,4,7,22,23,24,25]
abbrev aui:=J [I 26 24,bi 27 8 22 24,aY 28 8 27,cy 9 [ae,ae,ae,.str [],ae,b3,b3,c1],I 8 26,br 8 9 28] [2,3,4,7,8,9,22,23,24]
abbrev auj:=di [ai 29 2 7,am 30 29,I 31 8,aY 32 9 2,aY 33 10 3,aY 34 8 9,cW 35 Iy [ab 32,ab 33,ab 34],cM 36 35,bi 37 8 30 31,ai 38 6 37,br 1 38 36] [U,U,U,U,U,U,U,U,U,U,ff] [2,3,4,7,8,9,22,23,24]
abbrev auk:=di [ai 39 2 7,am 40 39,I 41 8,aY 42 9 2,aY 43 10 3,ai 44 7 9,am 45 44,bt 46 Iw [ab 42,ab 43,ab 45],bi 47 8 40 41,ai 48 7 47,br 1 48 46] [U,U,U,U,U,U,U,U,U,U,ff] [2,3,4,7,22,23,24]
abbrev aul:=J [be 49 .add 24 1,I 24 49] [2,3,4,7,22,23,24]
abbrev aun:=J [ai 52 4 7,lP (.store 1 (ab 52) fu)] [2,4,7]
abbrev auo:=J [ai 53 4 2,am 54 53,bF 55 54,aQ 56 0] [4,7,54,55,56]
abbrev aup:=J [b0 57 .lss 56 55] [4,7,54,55,56,57]
abbrev auq:=J [bi 58 4 54 56,aY 59 4 58,cy 11 [ae,ae,ae,b3],br 4 11 59] [4,7,11,54,55,56]
abbrev aur:=J [ai 62 4 7,am 63 62,aY 64 4 11,a0 65 (.buildSlice [ae,ae,ae,b3] 4 1 [(0,(4,(ab 64)))]),hR 66 4 32 63 65,ai 67 4 7,br 1 67 66] [4,7,54,55,56]
abbrev aus:=al (J [ai 60 3 11,eJ 61 60] [4,7,11,54,55,56,61]) (aH 61 aur aC)
abbrev auu:=J [be 68 .add 56 1,I 56 68] [4,7,54,55,56]
abbrev Ra:a6:=ba 55 (bb 2 (cg [4,7,54,55,56] (cv aup (aH 57 aC (bS 2)) (bb 3 (al auq aus)) auu)))
abbrev auv:=al (J [ai 50 6 3,eJ 51 50] [2,4,7,51]) (aH 51 (cb aun auo Ra) aC)
abbrev auw:a6:=ba 61 (J [aY 69 9 7,br 9 4 69,aQ 5 0] [4,5])
def Gb:bs:=⟨70,[(.cell 4 9 true),(.tmp 5)],uh aue (al aum aux) auf (al aug (bb 0 (cg [2,3,4,7,22,23,24] (cv auh (aH 25 aC (bS 0)) (bb 1 (cb aui auj auk)) aul)))) auv auw aR⟩
theorem aFr:bB au (bE au Iu Gb []) Iu=some Gb:=by kernel_rfl
abbrev auy:=J [cu 2 9 0,cu 3 10 1,aQ 4 0] [2,3]
abbrev auD:=J [aY 10 9 2,bt 11 z_ [ab 10],I 9 11,c_ 12 9 0,c_ 13 9 1,c_ 14 9 2,I 5 12,I 6 13,I 7 14] [2,3,7]
abbrev auE:=J [aQ 4 21] [4]
abbrev auF:=al (J [I 15 7,bD 16 .neq 15 0] [2,3,16]) (aH 16 (al auE aR) aC)
abbrev auz:=J [ai 17 0 2,am 18 17,bF 19 18,be 20 .sub 19 1,I 8 20] [3,8]
abbrev auA:=J [aQ 4 22] [4]
abbrev auB:=al (J [ai 21 0 3,am 22 21,I 23 8,cW 24 ub [ab 22,bX 0,ab 23],cM 25 24,aN 26 25,ax 26 (ai 27 1 3),ax 26 (am 28 27),ax 26 (I 29 8),ax 26 (cW 30 ub [ab 28,bX 0,ab 29]),ax 26 (cM 31 30),cC 32 26 31,aN 33 32,ax 33 (ai 34 2 3),ax 33 (am 35 34),ax 33 (cW 36 ub [ab 35,bX 0,bX 3155932800]),ax 33 (cM 37 36),cC 38 33 37,aN 39 38,ax 39 (ai 40 4 3),ax 39 (am 41 40),ax 39 (cW 42 ub [ab 41,bX 0,bX 8]),ax 39 (cM 43 42),cC 44 39 43,aN 45 44,ax 45 (ai 46 5 3),ax 45 (am 47 46),ax 45 (cW 48 ub [ab 47,bX 0,bX 86400]),ax 45 (cM 49 48),cC 50 45 49,aN 51 50,ax 51 (ai 52 8 3),ax 51 (am 53 52),ax 51 (cW 54 ub [ab 53,bX 0,bX 255]),ax 51 (cM 55 54),cC 56 51 55,aN 57 56,ax 57 (ai 58 9 3),ax 57 (eJ 59 58),ax 57 (aN 60 59),av 60 (ai 61 3 3),av 60 (eJ 62 61),ax 57 (cG 63 60 62),cC 64 57 63] [64]) (aH 64 (al auA aR) aC)
abbrev auC:=J [aQ 4 0] [4]
def F_:bs:=⟨65,[(.tmp 4)],uh auy auD auF auz auB auC aR⟩
theorem aFp:bB au (bE au DS F_ []) DS=some F_:=by kernel_rfl
abbrev avk:=J [cu 3 9 0] [1,2,3]
abbrev avq:=J [aY 7 9 1,aY 8 9 3,bt 9 IL [ab 7,ab 8],a0 10 (.conv .i64 (ab 9)),I 4 10] [1,2,3,4]
abbrev avr:=di [ai 11 1 1,am 12 11,ai 13 2 1,am 14 13,ai 15 1 3,am 16 15,bi 17 8 14 16,ai 18 4 17,am 19 18,bi 20 3 12 19,ai 21 1 20,am 22 21,a0 23 (.buildSlice [ae] 1 1 [(0,(1,(ab 22)))]),bt 24 H9 [ab 23],a0 25 (.conv .i64 (ab 24)),I 5 25] [U,U,U,U,U,U,U,U,U,U,U,U,U,ff,U,U] [2,3,4,5]
abbrev avs:=J [am 29 2,ai 30 6 3,am 31 30,ai 32 7 3,am 33 32,I 34 4,I 35 5,a0 36 (.build [ae,ae,ae,ae] [(0,(1,(ab 31))),(1,(1,(ab 33))),(2,(1,(ab 34))),(3,(1,(ab 35)))]),a0 37 (.buildSlice [ae,ae,ae,ae] 4 1 [(0,(4,(ab 36)))]),hR 38 4 32 29 37,br 1 2 38] []
abbrev avl:=al (J [ai 26 8 3,eJ 27 26,cM 28 27] [2,3,4,5,28]) (aH 28 (al avs aR) aC)
abbrev avm:=J [am 39 2,am 40 2,bF 41 40,be 42 .sub 41 1,bi 43 4 39 42,I 6 43] [3,4,5,6]
abbrev avn:=J [I 44 6,ai 45 7 3,am 46 45,b2 47 44,ai 48 1 47,br 1 48 46] [4,5,6]
abbrev avo:=J [I 49 6,b2 50 49,ai 51 2 50,am 52 51,I 53 4,b0 54 .or 52 53,b2 55 49,ai 56 2 55,br 1 56 54] [5,6]
abbrev avp:=J [I 57 6,b2 58 57,ai 59 3 58,am 60 59,I 61 5,b0 62 .or 60 61,b2 63 57,ai 64 3 63,br 1 64 62] []
def Cc:bs:=⟨65,[],iL avk avq avr avl avm avn avo avp⟩
theorem S6:bB au (bE au DY Cc []) DY=some Cc:=by kernel_rfl
abbrev avt:=J [cu 2 9 0,cu 3 9 1,d9 4 (.const (.int .u64 0))] [2,3]
abbrev avy:=J [d9 5 (.const (.int .u64 0))] [2,3,5]
abbrev avz:=di [ai 8 2 2,am 9 8,ai 10 1 3,am 11 10,bi 12 8 9 11,ai 13 7 12,am 14 13,ai 15 2 3,am 16 15,ai 17 3 3,am 18 17,be 19 .add 18 1,a0 20 (.slice 5 (ab 14) (some (ab 16)) (some (ab 19)) none),bF 21 20,aQ 22 0] [U,U,U,U,U,U,U,U,U,U,U,U,U,U,U] [2,5,20,21,22]
abbrev avA:=J [b0 23 .lss 22 21] [2,5,20,21,22,23]
abbrev avu:=J [bi 24 5 20 22,aY 25 5 24,cy 7 [ae,ae,ae,b3,b3],br 5 7 25] [2,5,7,20,21,22]
abbrev avv:=J [I 26 5,ai 27 0 2,am 28 27,ai 29 0 7,am 30 29,bi 31 4 28 30,ai 32 1 31,am 33 32,bt 34 Ia [ab 26,ab 33],I 5 34] [2,5,20,21,22]
abbrev avw:=J [be 35 .add 22 1,I 22 35] [2,5,20,21,22]
abbrev avx:=J [I 36 5,I 4 36] [4]
def Cg:bs:=⟨37,[(.tmp 4)],f3 avt avy (al avz (bb 0 (cg [2,5,20,21,22] (cv avA (aH 23 aC (bS 0)) (bb 1 (al avu avv)) avw)))) avx aR⟩
theorem Ta:bB au (bE au IL Cg []) IL=some Cg:=by kernel_rfl
abbrev avB:=J [d9 2 (.const (.int .u64 0))] [0]
abbrev avG:=J [d9 3 (.const (.int .u64 0))] [0,3]
abbrev avH:=J [I 6 0,bF 7 6,aQ 8 0] [3,6,7,8]
abbrev avI:=J [b0 9 .lss 8 7] [3,6,7,8,9]
abbrev avC:=J [bi 10 1 6 8,am 11 10,I 5 11] [3,5,6,7,8]
abbrev avD:=J [I 12 3,I 13 5,bt 14 DH [ab 13],b0 15 .or 12 14,I 3 15] [3,6,7,8]
abbrev avE:=J [be 16 .add 8 1,I 8 16] [3,6,7,8]
abbrev avF:=J [I 17 3,I 2 17] [2]
def BG:bs:=⟨18,[(.tmp 2)],f3 avB avG (al avH (bb 0 (cg [3,6,7,8] (cv avI (aH 9 aC (bS 0)) (bb 1 (al avC avD)) avE)))) avF aR⟩
theorem Sx:bB au (bE au H9 BG []) H9=some BG:=by kernel_rfl
abbrev avJ:=J [cu 2 9 0,cu 3 9 1,cl 4 cU] [2,3]
abbrev avK:=di [ai 5 1 3,am 6 5,d8 7 (.bin .leq .none (bX 0) (ab 6)),aN 8 7,av 8 (ai 9 1 3),av 8 (am 10 9),av 8 (ai 11 2 2),av 8 (am 12 11),av 8 (bF 13 12),av 8 (bv 14 .lss 10 13),cG 15 8 14,aN 16 15,av 16 (ai 17 2 3),av 16 (am 18 17),av 16 (d8 19 (.bin .leq .none (bX 0) (ab 18))),cG 20 16 19,aN 21 20,av 21 (ai 22 2 3),av 21 (am 23 22),av 21 (ai 24 3 3),av 21 (am 25 24),av 21 (bv 26 .lss 23 25),cG 27 21 26,aN 28 27,av 28 (ai 29 3 3),av 28 (am 30 29),av 28 (ai 31 2 2),av 28 (am 32 31),av 28 (ai 33 1 3),av 28 (am 34 33),av 28 (bi 35 8 32 34),av 28 (ai 36 7 35),av 28 (am 37 36),av 28 (bF 38 37),av 28 (bv 39 .lss 30 38),cG 40 28 39,aN 4 40] [U,U,U,U,U,U,U,U,U,U,U,U,U,U,U,U,U,U,U,U,U,U,U,U,U,U,U,U,U,U,U,U,U,U,U,U,U] [4]
def Cf:bs:=⟨41,[(.tmp 4)],cb avJ avK aR⟩
theorem S_:bB au (bE au IK Cf []) IK=some Cf:=by kernel_rfl
abbrev ayw:=J [cu 1 9 0,cy 2 [c1,c1,c1,c1,c1,c1,ae,ae,ae]] [1,2]
def Yu:List V:=[(.slice [] .nil),(.slice [] .nil),(.slice [] .nil),(.slice [] .nil),(.slice [] .nil),(.slice [] .nil),(.int .i64 0),(.int .i64 0),(.int .i64 0)]
abbrev ayC:a6:=.sE 18 Yu [ai 5 0 1,am 6 5,ai 8 1 1,am 9 8,ai 11 2 1,am 12 11,ai 14 3 1,am 15 14,ai 17 4 1,am 18 17,ai 20 5 1,aY 21 4 20,bt 7 IY [ab 6],bt 10 IW [ab 9],bt 13 IX [ab 12],bt 16 IU [ab 15],bt 19 IT [ab 18],a0 22 (.build [c1,c1,c1,c1,c1,c1,ae,ae,ae] [(0,(1,(ab 7))),(1,(1,(ab 10))),(2,(1,(ab 13))),(3,(1,(ab 16))),(4,(1,(ab 19))),(5,(4,(ab 21)))]),cy 3 [c1,c1,c1,c1,c1,c1,ae,ae,ae],br 9 3 22] [none,none,none,none,none,none,none,none,none,none,none,none,(some [2,3,4,5,6,7,8,9,10,11]),(some [4,5,6,7,8,9,10,11]),(some [6,7,8,9,10,11]),(some [8,9,10,11]),(some [10,11]),none,(some [0,1,2,3,4,5,6,7,8,9,10,11,17]),(some [])] [1,2,3]
abbrev ayD:=J [ai 23 2 3,am 24 23,bF 25 24,aQ 26 0] [1,2,3,25,26]
abbrev ayE:=J [b0 27 .lss 26 25] [1,2,3,25,26,27]
abbrev ayx:=J [I 28 26,I 4 28] [1,2,3,4,25,26]
abbrev ayy:=di [ai 29 2 3,am 30 29,I 31 4,ai 32 2 3,am 33 32,I 34 4,bi 35 8 33 34,ai 36 7 35,am 37 36,bt 38 IS [ab 37],bi 39 8 30 31,ai 40 7 39,br 1 40 38] [U,U,U,U,U,U,U,U,U,U,U,U,ff] [1,2,3,25,26]
abbrev ayz:=J [be 41 .add 26 1,I 26 41] [1,2,3,25,26]
abbrev ayA:=J [ai 42 5 1,ai 43 0 42,am 44 43,bt 45 IV [ab 44],ai 46 5 3,ai 47 0 46,br 1 47 45] [2,3]
abbrev ayB:=J [aY 48 9 3,br 9 2 48] [2]
def Gy:bs:=⟨49,[(.cell 2 9 true)],hM ayw ayC (al ayD (bb 0 (cg [1,2,3,25,26] (cv ayE (aH 27 aC (bS 0)) (bb 1 (al ayx ayy)) ayz)))) ayA ayB aR⟩
theorem aFO:bB au (bE au D0 Gy [(1,[9999,40018])]) D0=some Gy:=by kernel_rfl
abbrev ayF:=J [cu 3 9 0,cu 4 10 1,cu 5 8 2,cl 6 cU] [3,4,5]
abbrev ayG:=J [ai 8 1 3,am 9 8,ai 10 4 5,am 11 10,bi 12 3 9 11,aY 13 3 12,cy 7 [.str [],ae,b3],br 3 7 13] [4,5,7]
abbrev ayH:=J [aY 14 8 5,a0 15 (.lO vP [ab 4]),a0 16 (.lO vQ [ab 7,ab 4]),a0 17 (.lO vR [ab 4,ab 7]),a0 18 (.rf [.gz,.gz,.gz,.gz] 4 [(0,(1,(.const (.dF vO [])))),(1,(1,(ab 15))),(2,(1,(ab 16))),(3,(1,(ab 17)))]),cW 19 Iv [ab 14,ab 18],aN 6 19] [6]
def Gf:bs:=⟨20,[(.tmp 6)],cv ayF ayG ayH aR⟩
theorem aFz:bB au (bE au Iy Gf [(2,[5004])]) Iy=some Gf:=by kernel_rfl
abbrev ayI:=J [cu 3 9 0,cu 4 10 1,d9 6 fu] [2,3,4]
abbrev ayP:=J [a0 7 (.pI 5)] [2,3,4,7]
abbrev ayQ:=J [I 10 2,bF 11 10,aQ 12 0] [3,4,7,10,11,12]
abbrev ayR:=J [b0 13 .lss 12 11] [3,4,7,10,11,12,13]
abbrev ayJ:=J [bi 14 5 10 12,aY 15 5 14,cy 9 [ae,ae,ae,b3,b3],br 5 9 15] [3,4,7,9,10,11,12]
abbrev ayK:=J [ai 22 3 9,lP (.store 1 (ab 22) cU),ai 23 4 9,lP (.store 1 (ab 23) cU)] [3,4,7,9,10,11,12]
abbrev ayL:=al (J [aY 16 9 3,aY 17 10 4,ai 18 0 9,am 19 18,cW 20 Ix [ab 16,ab 17,ab 19],cM 21 20] [3,4,7,9,10,11,12,21]) (aH 21 ayK aC)
abbrev ayM:=J [I 24 7,aY 25 5 9,a0 26 (.buildSlice [ae,ae,ae,b3,b3] 5 1 [(0,(5,(ab 25)))]),hR 27 5 32 24 26,I 7 27] [3,4,7,10,11,12]
abbrev ayN:=J [be 28 .add 12 1,I 12 28] [3,4,7,10,11,12]
abbrev ayO:a6:=ba 29 (J [I 29 7,I 30 7,bF 31 30,I 32 7,bF 33 32,a0 34 (.slice 5 (ab 29) none (some (ab 31)) (some (ab 33))),I 6 34] [6])
def Gd:bs:=⟨35,[(.tmp 6)],f3 ayI ayP (al ayQ (bb 0 (cg [3,4,7,10,11,12] (cv ayR (aH 13 aC (bS 0)) (bb 1 (cb ayJ ayL ayM)) ayN)))) ayO aR⟩
theorem aFt:bB au (bE au Iw Gd [(1,[0])]) Iw=some Gd:=by kernel_rfl
abbrev ayS:=J [cl 6 cU] [0,1,2]
abbrev ayT:=J [I 7 0,I 8 1,bv 9 .geq 7 8,aN 10 9,av 10 (I 11 0),av 10 (I 12 2),av 10 (bv 13 .leq 11 12),cG 14 10 13,aN 6 14] [6]
def Ga:bs:=⟨15,[(.tmp 6)],cb ayS ayT aR⟩
theorem aFq:bB au (bE au ub Ga []) ub=some Ga:=by kernel_rfl
abbrev azz:=J [cu 2 10 0,cu 3 5 1,cy 4 [ae,ae,ae,ae]] [2,3,4]
abbrev azA:=J [ai 6 1 3,am 7 6,ai 8 2 3,am 9 8,ai 10 3 3,am 11 10,ai 12 4 3,am 13 12,a0 14 (.build [ae,ae,ae,ae] [(0,(1,(ab 7))),(1,(1,(ab 9))),(2,(1,(ab 11))),(3,(1,(ab 13)))]),cy 5 [ae,ae,ae,ae],br 4 5 14] [2,3,4,5]
abbrev azB:=J [ai 17 0 3,am 18 17,a0 19 (.un .neg (ab 18)),a0 20 (.gy 4 1 (ab 5) (bX 0)),br 1 20 19] [4,5]
abbrev azC:=al (J [ai 15 3 2,eJ 16 15] [3,4,5,16]) (aH 16 azB aC)
abbrev azD:=J [aY 21 4 5,br 4 4 21] [4]
def Cd:bs:=⟨22,[(.cell 4 4 true)],f3 azz azA azC azD aR⟩
theorem S8:bB au (bE au II Cd []) II=some Cd:=by kernel_rfl
abbrev azE:=J [d9 2 fu] [0]
abbrev azJ:=J [d9 3 fu] [0,3]
abbrev azK:=J [I 6 0,bF 7 6,aQ 8 0] [3,6,7,8]
abbrev azL:=J [b0 9 .lss 8 7] [3,6,7,8,9]
abbrev azF:=J [bi 10 4 6 8,aY 11 4 10,cy 5 [ae,ae,ae,ae],br 4 5 11] [3,5,6,7,8]
abbrev azG:=J [I 12 3,aY 13 4 5,bt 14 I5 [ab 12,ab 13],I 3 14] [3,6,7,8]
abbrev azH:=J [be 15 .add 8 1,I 8 15] [3,6,7,8]
abbrev azI:a6:=ba 24 (J [I 16 3,I 2 16] [2])
def Ct:bs:=⟨17,[(.tmp 2)],f3 azE azJ (al azK (bb 0 (cg [3,6,7,8] (cv azL (aH 9 aC (bS 0)) (bb 1 (al azF azG)) azH)))) azI aR⟩
theorem Th:bB au (bE au I3 Ct []) I3=some Ct:=by kernel_rfl
abbrev aBF:=J [d9 4 (.const (.int .u64 0))] [0,1]
abbrev aBG:=J [I 5 0,I 6 1,bt 7 DH [ab 6],b0 8 .or 5 7,I 4 8] [4]
def BJ:bs:=⟨9,[(.tmp 4)],cb aBF aBG aR⟩
theorem SA:bB au (bE au Ia BJ []) Ia=some BJ:=by kernel_rfl
abbrev aBH:=J [d9 2 (.const (.int .u64 0))] [0]
abbrev aBI:=J [d9 2 (.const (.int .u64 0))] [2]
abbrev aBJ:=al (J [I 3 0,bD 4 .lss 3 0,aN 5 4,ax 5 (I 6 0),ax 5 (bD 7 .gtr 6 63),cC 8 5 7] [0,8]) (aH 8 (al aBI aR) aC)
abbrev aBK:=J [I 9 0,a0 10 (.bin .shl .none (.const (.int .u64 1)) (ab 9)),I 2 10] [2]
def BL:bs:=⟨11,[(.tmp 2)],cv aBH aBJ aBK aR⟩
theorem SC:bB au (bE au DH BL []) DH=some BL:=by kernel_rfl
abbrev aCn:=J [d9 4 (.const (.int .u64 0))] [0,1]
abbrev aCo:=J [I 5 0,I 6 1,b0 7 .or 5 6,I 4 7] [4]
def BI:bs:=⟨8,[(.tmp 4)],cb aCn aCo aR⟩
theorem Sz:bB au (bE au DG BI []) DG=some BI:=by kernel_rfl
abbrev aCp:=J [aQ 2 0] [0]
abbrev aCw:=J [aQ 3 0] [0,3]
abbrev aCx:=J [I 6 3,I 2 6] [2]
abbrev aCy:=al (J [I 4 0,d8 5 (.bin .eql .none (ab 4) (.const (.int .u64 0)))] [0,3,5]) (aH 5 (al aCx aR) aC)
abbrev aCq:=J [I 7 0,I 8 0,a0 9 (.bin .sub .none (ab 8) (.const (.int .u64 1))),b0 10 .and 7 9,I 0 10] [0,3]
abbrev aCr:=J [I 11 3,be 12 .add 11 1,I 3 12] [0,3]
abbrev aCs:=J [I 6 3,I 2 6] [2]
abbrev aCt:=al (J [I 4 0,d8 5 (.bin .eql .none (ab 4) (.const (.int .u64 0)))] [0,3,5]) (aH 5 (al aCs aR) aC)
abbrev aCu:=J [I 7 0,I 8 0,a0 9 (.bin .sub .none (ab 8) (.const (.int .u64 1))),b0 10 .and 7 9,I 0 10] [0,3]
abbrev aCv:=J [I 11 3,be 12 .add 11 1,I 3 12] [0,3]
def BH:bs:=⟨13,[(.tmp 2)],al aCp (.scope 0 [0,3] (al aCw (al .label (al aCy (al aCq (al aCr (.goto 0)))))) (al aC (al aCt (al aCu (al aCv (.goto 0))))))⟩
theorem Sy:bB au (bE au H_ BH []) H_=some BH:=by kernel_rfl
abbrev aCz:=J [cl 4 cU] [0,1]
abbrev aCA:=J [I 5 0,I 6 1,b0 7 .andNot 5 6,d8 8 (.bin .eql .none (ab 7) (.const (.int .u64 0))),aN 4 8] [4]
def BK:bs:=⟨9,[(.tmp 4)],cb aCz aCA aR⟩
theorem SB:bB au (bE au Ib BK []) Ib=some BK:=by kernel_rfl
abbrev ae4:=J [d9 2 fu] [0]
abbrev ae5:=J [a0 4 (.buildSlice [] 4 0 []),I 5 0,hR 6 4 40 4 5,I 3 6] [3]
abbrev ae6:=J [I 7 3,I 8 3,bF 9 8,I 10 3,bF 11 10,a0 12 (.slice 4 (ab 7) none (some (ab 9)) (some (ab 11))),I 2 12] [2]
def Cp:bs:=⟨13,[(.tmp 2)],cv ae4 ae5 ae6 aR⟩
theorem aFZ:bB au (bE au IY Cp []) IY=some Cp:=by kernel_rfl
abbrev ae7:=J [d9 2 fu] [0]
abbrev ae8:=J [a0 4 (.buildSlice [] 3 0 []),I 5 0,hR 6 3 32 4 5,I 3 6] [3]
abbrev ae9:=J [I 7 3,I 8 3,bF 9 8,I 10 3,bF 11 10,a0 12 (.slice 3 (ab 7) none (some (ab 9)) (some (ab 11))),I 2 12] [2]
def Cn:bs:=⟨13,[(.tmp 2)],cv ae7 ae8 ae9 aR⟩
theorem aFX:bB au (bE au IW Cn []) IW=some Cn:=by kernel_rfl
abbrev ae_:=J [d9 2 fu] [0]
abbrev afa:=J [a0 4 (.buildSlice [] 8 0 []),I 5 0,hR 6 8 80 4 5,I 3 6] [3]
abbrev afb:=J [I 7 3,I 8 3,bF 9 8,I 10 3,bF 11 10,a0 12 (.slice 8 (ab 7) none (some (ab 9)) (some (ab 11))),I 2 12] [2]
def Co:bs:=⟨13,[(.tmp 2)],cv ae_ afa afb aR⟩
theorem aFY:bB au (bE au IX Co []) IX=some Co:=by kernel_rfl
abbrev afc:=J [d9 2 fu] [0]
abbrev afd:=J [a0 4 (.buildSlice [] 5 0 []),I 5 0,hR 6 5 40 4 5,I 3 6] [3]
abbrev afe:=J [I 7 3,I 8 3,bF 9 8,I 10 3,bF 11 10,a0 12 (.slice 5 (ab 7) none (some (ab 9)) (some (ab 11))),I 2 12] [2]
def Cl:bs:=⟨13,[(.tmp 2)],cv afc afd afe aR⟩
theorem aFV:bB au (bE au IU Cl []) IU=some Cl:=by kernel_rfl
abbrev aff:=J [d9 2 fu] [0]
abbrev afg:=J [a0 4 (.buildSlice [] 4 0 []),I 5 0,hR 6 4 32 4 5,I 3 6] [3]
abbrev afh:=J [I 7 3,I 8 3,bF 9 8,I 10 3,bF 11 10,a0 12 (.slice 4 (ab 7) none (some (ab 9)) (some (ab 11))),I 2 12] [2]
def Ck:bs:=⟨13,[(.tmp 2)],cv aff afg afh aR⟩
theorem aFU:bB au (bE au IT Ck []) IT=some Ck:=by kernel_rfl
abbrev afi:=J [d9 2 fu] [0]
abbrev afj:=J [a0 4 (.buildSlice [] 5 0 []),I 5 0,hR 6 5 32 4 5,I 3 6] [3]
abbrev afk:=J [I 7 3,I 8 3,bF 9 8,I 10 3,bF 11 10,a0 12 (.slice 5 (ab 7) none (some (ab 9)) (some (ab 11))),I 2 12] [2]
def Cj:bs:=⟨13,[(.tmp 2)],cv afi afj afk aR⟩
theorem aFT:bB au (bE au IS Cj []) IS=some Cj:=by kernel_rfl
abbrev afl:=J [d9 2 fu] [0]
abbrev afm:=J [a0 4 (.buildSlice [] 6 0 []),I 5 0,hR 6 6 56 4 5,I 3 6] [3]
abbrev afn:=J [I 7 3,I 8 3,bF 9 8,I 10 3,bF 11 10,a0 12 (.slice 6 (ab 7) none (some (ab 9)) (some (ab 11))),I 2 12] [2]
def Cm:bs:=⟨13,[(.tmp 2)],cv afl afm afn aR⟩
theorem aFW:bB au (bE au IV Cm []) IV=some Cm:=by kernel_rfl
abbrev afo:=J [cu 2 8 0,cl 4 cU] [1,2]
abbrev aft:=J [I 7 1,bF 8 7,aQ 9 0] [2,7,8,9]
abbrev afu:=J [b0 10 .lss 9 8] [2,7,8,9,10]
abbrev afv:=J [bi 11 1 7 9,am 12 11,I 6 12] [2,6,7,8,9]
abbrev afp:=J [cl 4 cU] [4]
abbrev afq:=al (J [I 13 6,aY 14 8 2,d8 15 (.fX (ab 13) [ab 14]),cM 16 15] [2,7,8,9,16]) (aH 16 (al afp aR) aC)
abbrev afr:=J [be 17 .add 9 1,I 9 17] [2,7,8,9]
abbrev afs:=J [cl 4 fU] [4]
def Gc:bs:=⟨18,[(.tmp 4)],cv afo (al aft (bb 0 (cg [2,7,8,9] (cv afu (aH 10 aC (bS 0)) (bb 1 (al afv afq)) afr)))) afs aR⟩
theorem aFs:bB au (bE au Iv Gc []) Iv=some Gc:=by kernel_rfl
abbrev afw:=J [cu 1 8 0,cl 2 cU] [1]
abbrev afx:=J [ai 3 6 1,eJ 4 3,cM 5 4,aN 2 5] [2]
def Gg:bs:=⟨6,[(.tmp 2)],cb afw afx aR⟩
theorem aFv:bB au (bE au vO Gg []) vO=some Gg:=by kernel_rfl
abbrev afy:=J [cu 2 8 0,cl 3 cU] [1,2]
abbrev afz:=J [ai 4 5 2,eJ 5 4,aN 6 5,ax 6 (ai 7 6 1),ax 6 (eJ 8 7),ax 6 (cM 9 8),cC 10 6 9,aN 3 10] [3]
def Gh:bs:=⟨11,[(.tmp 3)],cb afy afz aR⟩
theorem aFw:bB au (bE au vP Gh []) vP=some Gh:=by kernel_rfl
abbrev afA:=J [cu 3 8 0,cl 4 cU] [1,2]
abbrev afB:=J [ai 5 2 1,eJ 6 5,aN 7 6,ax 7 (ai 8 7 2),ax 7 (eJ 9 8),ax 7 (cM 10 9),cC 11 7 10,aN 4 11] [4]
def Gi:bs:=⟨12,[(.tmp 4)],cb afA afB aR⟩
theorem aFx:bB au (bE au vQ Gi []) vQ=some Gi:=by kernel_rfl
abbrev afC:=J [cu 3 8 0,cl 4 cU] [1,2]
abbrev afD:=J [ai 5 8 1,am 6 5,bD 7 .eql 6 0,aN 8 7,ax 8 (ai 9 8 1),ax 8 (am 10 9),ax 8 (ai 11 1 2),ax 8 (am 12 11),ax 8 (b0 13 .shr 10 12),ax 8 (be 14 .and 13 1),ax 8 (bD 15 .eql 14 1),cC 16 8 15,aN 4 16] [4]
def Gj:bs:=⟨17,[(.tmp 4)],cb afC afD aR⟩
theorem aFy:bB au (bE au vR Gj []) vR=some Gj:=by kernel_rfl
abbrev afE:=J [cu 3 9 0,cu 4 10 1,cl 6 cU] [2,3,4]
abbrev afF:=J [ai 7 0 3,am 8 7,I 9 2,bi 10 4 8 9,ai 11 2 10,eJ 12 11,aN 13 12,ax 13 (ai 14 6 4),ax 13 (eJ 15 14),ax 13 (cM 16 15),cC 17 13 16,aN 6 17] [6]
def Ge:bs:=⟨18,[(.tmp 6)],cb afE afF aR⟩
theorem aFu:bB au (bE au Ix Ge []) Ix=some Ge:=by kernel_rfl
abbrev agL:=J [cu 3 4 1,d9 4 fu] [0,3]
abbrev agT:=J [I 13 0,I 4 13] [4]
abbrev ag2:=al (J [I 10 0,aY 11 4 3,cW 12 I1 [ab 10,ab 11]] [0,3,12]) (aH 12 (al agT aR) aC)
abbrev ag3:=J [aQ 5 0] [0,3,5]
abbrev agM:=J [I 14 0,bF 15 14,aQ 16 0] [0,3,5,14,15,16]
abbrev agN:=J [b0 17 .lss 16 15] [0,3,5,14,15,16,17]
abbrev agO:=J [bi 18 4 14 16,aY 19 4 18,cy 7 [ae,ae,ae,ae],br 4 7 19] [0,3,5,7,14,15,16]
abbrev agP:=J [I 24 0,I 25 5,aY 26 4 7,bi 27 4 24 25,br 4 27 26] [0,3,5,14,15,16]
abbrev agQ:=J [I 28 5,be 29 .add 28 1,I 5 29] [0,3,5,14,15,16]
abbrev agR:=al (J [aY 20 4 3,aY 21 4 7,cW 22 I2 [ab 20,ab 21],cM 23 22] [0,3,5,7,14,15,16,23]) (aH 23 (al agP agQ) aC)
abbrev agS:=J [be 30 .add 16 1,I 16 30] [0,3,5,14,15,16]
abbrev agU:=J [aQ 8 0] [0,3,5,8]
abbrev agV:=al (di [I 31 8,I 32 5,bv 33 .lss 31 32,aN 34 33,av 34 (I 35 0),av 34 (I 36 8),av 34 (bi 37 4 35 36),av 34 (aY 38 4 37),av 34 (aY 39 4 3),av 34 (bt 40 I0 [ab 38,ab 39]),av 34 (bD 41 .lss 40 0),cG 42 34 41] [U,U,U,U,U,U,U,U,U,ff,U,U] [0,3,5,8,42]) (aH 42 aC (bS 2))
abbrev agW:=J [I 43 8,be 44 .add 43 1,I 8 44] [0,3,5,8]
abbrev agX:a6:=ba 44 (J [I 45 5,I 46 8,b0 47 .sub 45 46,a0 48 (.makeSlice [ae,ae,ae,ae] 4 32 (ab 47) (ab 47)),I 9 48] [0,3,5,8,9])
abbrev agY:a6:=ba 46 (J [I 49 9,I 50 0,I 51 8,I 52 5,a0 53 (.slice 4 (ab 50) (some (ab 51)) (some (ab 52)) none),a0 54 (.copy 4 (ab 49) (ab 53))] [0,3,8,9])
abbrev agZ:a6:=ba 48 (.float [I 55 0,I 56 8,I 57 8,aY 59 4 3,a0 60 (.buildSlice [ae,ae,ae,ae] 4 1 [(0,(4,(ab 59)))]),I 62 9,a0 58 (.uF 4 (ab 55) (ab 56) (ab 57)),hR 61 4 32 58 60,hR 63 4 32 61 62,I 4 63] [none,none,none,none,none,none,(some [3,4,5]),(some [5]),(some []),none] [4])
abbrev ag0:a6:=ba 49 (al agZ aR)
abbrev ag1:a6:=ba 50 (al agY ag0)
abbrev Q0:a6:=ba 51 (al agX ag1)
abbrev Q1:a6:=ba 53 (cb agU (bb 2 (cg [0,3,5,8] (al agV (bb 3 agW)))) Q0)
def tD:bs:=⟨64,[(.tmp 4)],f3 agL ag2 ag3 (al agM (bb 0 (cg [0,3,5,14,15,16] (cv agN (aH 17 aC (bS 0)) (bb 1 (al agO agR)) agS)))) Q1⟩
theorem Tj:bB au (bE au I5 tD [(16,[3])]) I5=some tD:=by kernel_rfl
abbrev ajX:=J [cu 3 9 0,cu 4 10 1,cu 5 1 2,cy 6 [ae,ae,ae,ae,ae],d9 7 fu,aQ 8 0] [3,4,5,6]
abbrev aj6:=J [aY 16 9 3,aY 17 1 5,bt 18 IH [ab 16,ab 17],I 15 18,c_ 19 15 0,c_ 20 15 1,I 9 19,I 10 20] [3,4,5,6,9,10]
abbrev aj7:=J [a0 23 (.build [ae,ae,ae,ae,ae] []),I 24 10,br 5 6 23,d9 7 fu,I 8 24] [6,7,8]
abbrev aj8:=al (J [I 21 10,bD 22 .neq 21 0] [3,4,5,6,9,10,22]) (aH 22 (al aj7 aR) aC)
abbrev ajY:=J [ai 26 5 3,aY 27 4 26,I 28 9,bt 29 Ih [ab 27,ab 28],I 25 29,c_ 30 25 0,c_ 31 25 1,c_ 32 25 2,I 11 30,I 12 31,I 10 32] [4,5,6,9,10,11,12]
abbrev ajZ:=J [a0 35 (.build [ae,ae,ae,ae,ae] []),I 36 10,br 5 6 35,d9 7 fu,I 8 36] [6,7,8]
abbrev aj0:=al (J [I 33 10,bD 34 .neq 33 0] [4,5,6,9,10,11,12,34]) (aH 34 (al ajZ aR) aC)
abbrev aj1:a6:=.float [ai 37 2 4,am 38 37,ai 39 2 4,am 40 39,I 41 9,bF 42 41,I 43 11,aY 44 1 5,bt 45 IJ [ab 44],a0 46 (.build [ae,ae,ae,ae,ae] [(0,(1,(ab 38))),(1,(1,(ab 40))),(2,(1,(ab 42))),(3,(1,(ab 43))),(4,(1,(ab 45)))]),cy 13 [ae,ae,ae,ae,ae],br 5 13 46] [none,none,none,none,none,none,none,none,none,none,(some [0,1,2,3,4,5,6,7,8,9]),(some [])] [5,6,12,13]
abbrev aj2:=J [ai 47 0 5,am 48 47,bF 49 48,I 14 49] [5,6,12,13,14]
abbrev aj3:a6:=.float [ai 52 0 5,am 53 52,a0 54 (.mH 9 (ab 53) (bX 0)),ai 55 6 54,am 56 55,ai 57 0 5,am 58 57,I 59 14,be 60 .sub 59 1,bi 61 9 58 60,ai 62 7 61,am 63 62,ai 64 0 13,br 1 64 56,ai 65 1 13,br 1 65 63] [none,none,none,none,none,none,none,none,none,none,none,none,none,(some [5,6,7,8,9,10,11]),none,(some [])] [6,12,13]
abbrev aj4:=al (J [I 50 14,bD 51 .gtr 50 0] [5,6,12,13,14,51]) (aH 51 aj3 aC)
abbrev aj5:=J [aY 66 5 13,I 67 12,br 5 6 66,I 7 67,aQ 8 0] [6,7,8]
def Ca:bs:=⟨68,[(.cell 6 5 true),(.tmp 7),(.tmp 8)],al ajX (iL aj6 aj8 ajY aj0 aj1 (al aj2 aj4) aj5 aR)⟩
theorem S5:bB au (bE au IG Ca [(7,[9998]),(10,[9998])]) IG=some Ca:=by kernel_rfl
abbrev akJ:=J [cu 3 4 1,cl 4 cU] [0,3]
abbrev akQ:=J [cl 5 cU] [0,3,5]
abbrev akU:=J [I 9 0,bF 10 9,aQ 11 0] [3,5,9,10,11]
abbrev ak3:=J [b0 12 .lss 11 10] [3,5,9,10,11,12]
abbrev akK:=J [bi 13 4 9 11,aY 14 4 13,cy 7 [ae,ae,ae,ae],br 4 7 14] [3,5,7,9,10,11]
abbrev akL:=J [aQ 15 0] [3,5,7,9,10,11,15]
abbrev akM:=J [be 16 .lss 15 4] [3,5,7,9,10,11,15,16]
abbrev akN:=J [I 17 15,I 8 17] [3,5,7,8,9,10,11,15]
abbrev akO:=al (di [I 18 8,a0 19 (.gy 4 1 (ab 7) (ab 18)),am 20 19,I 21 8,a0 22 (.gy 4 1 (ab 3) (ab 21)),am 23 22,bv 24 .gtr 20 23] [U,U,U,U,U,U,U] [3,5,7,9,10,11,15,24]) (aH 24 (bS 1) aC)
abbrev akP:=J [be 25 .add 15 1,I 15 25] [3,5,7,9,10,11,15]
abbrev akR:=J [cl 5 fU] [5]
abbrev akS:=J [be 26 .add 11 1,I 11 26] [3,5,9,10,11]
abbrev akT:=J [aN 27 5,aN 4 27] [4]
abbrev akV:=J [I 9 0,bF 10 9,aQ 11 0] [3,5,9,10,11]
abbrev akW:=J [b0 12 .lss 11 10] [3,5,9,10,11,12]
abbrev akX:=J [bi 13 4 9 11,aY 14 4 13,cy 7 [ae,ae,ae,ae],br 4 7 14] [3,5,7,9,10,11]
abbrev akY:=J [aQ 15 0] [3,5,7,9,10,11,15]
abbrev akZ:=J [be 16 .lss 15 4] [3,5,7,9,10,11,15,16]
abbrev ak0:=J [I 17 15,I 8 17] [3,5,7,8,9,10,11,15]
abbrev ak1:=al (di [I 18 8,a0 19 (.gy 4 1 (ab 7) (ab 18)),am 20 19,I 21 8,a0 22 (.gy 4 1 (ab 3) (ab 21)),am 23 22,bv 24 .gtr 20 23] [U,U,U,U,U,U,U] [3,5,7,9,10,11,15,24]) (aH 24 (bS 1) aC)
abbrev ak2:=J [be 25 .add 15 1,I 15 25] [3,5,7,9,10,11,15]
abbrev ak4:=J [cl 5 fU] [5]
abbrev ak5:=J [be 26 .add 11 1,I 11 26] [3,5,9,10,11]
abbrev ak6:=J [aN 27 5,aN 4 27] [4]
def Cr:bs:=⟨28,[(.tmp 4)],al akJ (.scope 0 [0,3,5] (al akQ (al .label (al (al akU (bb 0 (cg [3,5,9,10,11] (al ak3 (al (aH 12 aC (bS 0)) (al (bb 1 (al akK (al (al akL (bb 2 (cg [3,5,7,9,10,11,15] (al akM (al (aH 16 aC (bS 2)) (al (bb 3 (al akN akO)) akP)))))) (al akR (bS 0))))) akS)))))) (al akT aR)))) (al aC (al (al akV (bb 0 (cg [3,5,9,10,11] (al akW (al (aH 12 aC (bS 0)) (al (bb 1 (al akX (al (al akY (bb 2 (cg [3,5,7,9,10,11,15] (al akZ (al (aH 16 aC (bS 2)) (al (bb 3 (al ak0 ak1)) ak2)))))) (al ak4 (bS 0))))) ak5)))))) (al ak6 aR))))⟩
theorem Tf:bB au (bE au I1 Cr []) I1=some Cr:=by kernel_rfl
abbrev ak7:=J [cu 2 4 0,cu 3 4 1,cl 4 cU] [2,3]
abbrev ak8:=J [aY 5 4 2,aY 6 4 3,d8 7 (.bin .neq (.cells [.int,.int,.int,.int]) (ab 5) (ab 6)),aN 8 7,av 8 (aY 9 4 2),av 8 (aY 10 4 3),av 8 (cW 11 I4 [ab 9,ab 10]),cG 12 8 11,aN 4 12] [4]
def Cs:bs:=⟨13,[(.tmp 4)],cb ak7 ak8 aR⟩
theorem Tg:bB au (bE au I2 Cs []) I2=some Cs:=by kernel_rfl
abbrev ak9:=J [cu 2 4 0,cu 3 4 1,aQ 4 0] [2,3]
abbrev alg:=J [aQ 4 0] [4]
abbrev ali:=al (J [aY 6 4 2,aY 7 4 3,d8 8 (.bin .eql (.cells [.int,.int,.int,.int]) (ab 6) (ab 7))] [2,3,8]) (aH 8 (al alg aR) aC)
abbrev alj:=J [aQ 9 0] [2,3,9]
abbrev ak_:=J [be 10 .lss 9 4] [2,3,9,10]
abbrev ala:=J [I 11 9,I 5 11] [2,3,5,9]
abbrev alb:=J [aQ 4 (-1)] [4]
abbrev alc:=al (di [I 12 5,a0 13 (.gy 4 1 (ab 2) (ab 12)),am 14 13,I 15 5,a0 16 (.gy 4 1 (ab 3) (ab 15)),am 17 16,bv 18 .lss 14 17] [U,U,U,U,U,U,U] [2,3,5,9,18]) (aH 18 (al alb aR) aC)
abbrev ald:=J [aQ 4 1] [4]
abbrev ale:=al (di [I 19 5,a0 20 (.gy 4 1 (ab 2) (ab 19)),am 21 20,I 22 5,a0 23 (.gy 4 1 (ab 3) (ab 22)),am 24 23,bv 25 .gtr 21 24] [U,U,U,U,U,U,U] [2,3,9,25]) (aH 25 (al ald aR) aC)
abbrev alf:=J [be 26 .add 9 1,I 9 26] [2,3,9]
abbrev alh:=J [aQ 4 0] [4]
def Cq:bs:=⟨27,[(.tmp 4)],f3 ak9 ali (al alj (bb 0 (cg [2,3,9] (cv ak_ (aH 10 aC (bS 0)) (bb 1 (cb ala alc ale)) alf)))) alh aR⟩
theorem Te:bB au (bE au I0 Cq []) I0=some Cq:=by kernel_rfl
abbrev aoZ:=J [cu 1 1 0,aQ 2 0] [1]
abbrev ao5:=J [aQ 3 0] [1,3]
abbrev ao6:=J [ai 6 0 1,am 7 6,bF 8 7,aQ 9 0] [3,7,8,9]
abbrev ao7:=J [b0 10 .lss 9 8] [3,7,8,9,10]
abbrev ao0:=J [bi 11 9 7 9,aY 12 9 11,cy 5 [b3,ae,ae,ae,ae,ae,ae,ae,b3],br 9 5 12] [3,5,7,8,9]
abbrev ao1:=al (J [ai 13 0 5,eJ 14 13,aN 15 14,ax 15 (ai 16 6 5),ax 15 (am 17 16),ax 15 (bD 18 .lss 17 0),cC 19 15 18,aN 20 19,ax 20 (ai 21 7 5),ax 20 (am 22 21),ax 20 (ai 23 6 5),ax 20 (am 24 23),ax 20 (bv 25 .lss 22 24),cC 26 20 25,aN 27 26,ax 27 (ai 28 7 5),ax 27 (am 29 28),ax 27 (ai 30 6 5),ax 27 (am 31 30),ax 27 (b0 32 .sub 29 31),ax 27 (bD 33 .gtr 32 14400),cC 34 27 33] [3,5,7,8,9,34]) (aH 34 (bS 1) aC)
abbrev ao2:=J [I 35 3,ai 36 7 5,am 37 36,ai 38 6 5,am 39 38,b0 40 .sub 37 39,b0 41 .add 35 40,I 3 41] [3,7,8,9]
abbrev ao3:=J [be 42 .add 9 1,I 9 42] [3,7,8,9]
abbrev ao4:=J [I 43 3,I 2 43] [2]
def Ce:bs:=⟨44,[(.tmp 2)],f3 aoZ ao5 (al ao6 (bb 0 (cg [3,7,8,9] (cv ao7 (aH 10 aC (bS 0)) (bb 1 (cb ao0 ao1 ao2)) ao3)))) ao4 aR⟩
theorem S9:bB au (bE au IJ Ce []) IJ=some Ce:=by kernel_rfl
abbrev ao8:=J [cu 2 4 0,cu 3 4 1,cl 4 cU] [2,3]
abbrev apc:=J [aQ 6 0] [2,3,6]
abbrev apd:=J [be 7 .lss 6 4] [2,3,6,7]
abbrev ape:=J [I 8 6,I 5 8] [2,3,5,6]
abbrev ao9:=J [cl 4 cU] [4]
abbrev ao_:=al (di [I 9 5,a0 10 (.gy 4 1 (ab 2) (ab 9)),am 11 10,I 12 5,a0 13 (.gy 4 1 (ab 3) (ab 12)),am 14 13,bv 15 .gtr 11 14] [U,U,U,U,U,U,U] [2,3,6,15]) (aH 15 (al ao9 aR) aC)
abbrev apa:=J [be 16 .add 6 1,I 6 16] [2,3,6]
abbrev apb:=J [cl 4 fU] [4]
def Cu:bs:=⟨17,[(.tmp 4)],cv ao8 (al apc (bb 0 (cg [2,3,6] (cv apd (aH 7 aC (bS 0)) (bb 1 (al ape ao_)) apa)))) apb aR⟩
theorem Ti:bB au (bE au I4 Cu []) I4=some Cu:=by kernel_rfl
end Go.aL.C
namespace Go.aL.C
open Go.aL
abbrev amc:=J [cu 2 4 0,aQ 4 0,d9 5 fu,aQ 6 0] [1,2]
abbrev aml:=J [aY 11 4 2,I 12 1,bt 13 Im [ab 11,ab 12],I 7 13] [1,2,7]
abbrev amn:=J [I 16 7,aQ 4 0,d9 5 fu,I 6 16] [4,5,6]
abbrev amo:=al (J [I 14 7,bD 15 .neq 14 0] [1,2,7,15]) (aH 15 (al amn aR) aC)
abbrev amd:=J [aY 17 4 2,I 18 1,bt 19 Ij [ab 17,ab 18],cy 8 [b3,ae,ae,ae,ae,ae,ae,b3,ae,ae,ae,ae,ae,ae,b3,ae,ae,ae,ae,ae,ae,b3,ae,ae,ae,ae,ae,ae,b3,ae,ae,ae,ae,ae,ae,b3,ae,ae,ae,ae,ae,ae,b3,ae,ae,ae,ae,ae,ae,b3,ae,ae,ae,ae,ae,ae,b3,ae,ae,ae,ae,ae,ae],br 63 8 19] [1,2,8]
abbrev ame:=J [aQ 4 0,d9 5 fu,aQ 6 34] [4,5,6]
abbrev amf:=al (J [a0 20 (.gy 9 7 (ab 8) (bX 0)),ai 21 0 20,eJ 22 21,cM 23 22] [1,2,8,23]) (aH 23 (al ame aR) aC)
abbrev amg:=J [a0 9 (.pI 4)] [1,2,8,9]
abbrev amh:=J [aQ 10 0] [1,2,8,9,10]
abbrev ami:=al (J [I 24 10,I 25 1,bF 26 25,bv 27 .lss 24 26] [1,2,8,9,10,27]) (aH 27 aC (bS 0))
abbrev amj:=J [I 34 9,I 35 10,a0 36 (.gy 9 7 (ab 8) (ab 35)),ai 37 3 36,aY 38 4 37,a0 39 (.buildSlice [ae,ae,ae,ae] 4 1 [(0,(4,(ab 38)))]),hR 40 4 32 34 39,I 9 40] [1,2,8,9,10]
abbrev amk:=J [I 28 10,a0 29 (.gy 9 7 (ab 8) (ab 28)),ai 30 3 29,ai 31 2 30,am 32 31,be 33 .add 32 1,I 10 33] [1,2,8,9,10]
abbrev amm:=J [aY 41 4 2,a0 42 (.gy 9 7 (ab 8) (bX 0)),ai 43 1 42,am 44 43,bt 45 Ii [ab 41,ab 44],I 46 9,I 4 45,I 5 46,aQ 6 0] [4,5,6]
def BM:bs:=⟨47,[(.tmp 4),(.tmp 5),(.tmp 6)],iL amc (al aml amo) amd amf amg (al amh (bb 0 (cg [1,2,8,9,10] (cb ami (bb 1 amj) amk)))) amm aR⟩
theorem SD:bB au (bE au Ih BM [(7,[0])]) Ih=some BM:=by kernel_rfl
abbrev aoy:=J [cu 1 4 0,d9 2 (.const .dE),aQ 3 0] [1]
abbrev aoB:=J [aY 8 4 1,bt 9 Ab [ab 8],I 7 9,c_ 10 7 0,c_ 11 7 1,I 4 10,I 5 11] [1,5]
abbrev aoC:=J [d9 2 (.const .dE),aQ 3 20] [2,3]
abbrev aoD:=al (J [I 12 5,bD 13 .neq 12 0] [1,13]) (aH 13 (al aoC aR) aC)
abbrev aoz:=J [aY 14 4 1,cy 6 [c1,ae,ae,ae],br 4 6 14] [1,6]
abbrev aoA:=J [ai 15 0 1,am 16 15,a0 17 (.append true 6 56 fu (ab 16)),ai 18 0 6,br 1 18 17] [6]
abbrev Q4:a6:=ba 15 (J [a0 19 (.build [.dE,.dE,ae,ae,ae,ae,ae,ae,ae,ae,ae,ae,ae,ae,ae,ae] [(0,(1,(ab 6)))]),cu 20 16 19,I 2 20,aQ 3 0] [2,3])
theorem aDW(P:Program)(Q:Exit->aI->Mem->Prop)(s:aI)(M:Mem):dn P Q4 Q s M=@nn P [a0 19 (.build [.dE,.dE,ae,ae,ae,ae,ae,ae,ae,ae,ae,ae,ae,ae,ae,ae] [(0,(1,(ab 6)))]),cu 20 16 19,I 2 20,aQ 3 0] M ⟨s,fun aO ah=>Q .normal (g7 aO [2,3]) ah⟩:=rfl
def BU:bs:=⟨21,[(.tmp 2),(.tmp 3)],hM aoy (al aoB aoD) aoz aoA Q4 aR⟩
theorem SL:bB au (bE au DO BU []) DO=some BU:=by kernel_rfl
abbrev apF:=J [cu 3 4 1,d9 4 (.const .dE),aQ 5 0] [0,3]
abbrev apP:=J [d9 4 (.const .dE),aQ 5 40] [4,5]
abbrev apX:=al (J [I 13 0,d8 14 (.bin .eql .ptr (ab 13) (.const .dE))] [0,3,14]) (aH 14 (al apP aR) aC)
abbrev apZ:=J [d9 4 (.const .dE),aQ 5 33] [4,5]
abbrev apG:=al (J [I 15 0,b2 16 15,ai 17 6 16,am 18 17,bD 19 .geq 18 8] [0,3,19]) (aH 19 (al apZ aR) aC)
abbrev apH:=di [I 20 0,b2 21 20,ai 22 0 21,am 23 22,I 24 0,aY 25 4 3,I 26 0,b2 27 26,ai 28 6 27,am 29 28,be 30 .add 29 1,I 31 0,b2 32 31,ai 33 7 32,aY 34 9 33,a0 35 (.build [.dE,.dE,ae,ae,ae,ae,ae,ae,ae,ae,ae,ae,ae,ae,ae,ae] [(0,(1,(ab 23))),(1,(1,(ab 24))),(2,(4,(ab 25))),(6,(1,(ab 30))),(7,(9,(ab 34)))]),cu 36 16 35,I 6 36] [U,U,U,U,U,U,U,U,U,U,U,U,U,U,U,U,ff,U] [0,6]
abbrev apI:=J [I 37 6,bt 38 DP [ab 37],I 7 38] [0,6,7]
abbrev apJ:=J [aQ 8 (-1)] [0,6,7,8]
abbrev apK:=J [I 39 7,bF 40 39,aQ 41 0] [0,6,7,8,40,41]
abbrev apL:=J [b0 42 .lss 41 40] [0,6,7,8,40,41,42]
abbrev apM:=J [I 43 41,I 9 43] [0,6,7,8,9,40,41]
abbrev apN:=J [I 44 0,b2 45 44,ai 46 0 45,am 47 46,b2 48 47,ai 49 0 48,am 50 49,bF 51 50,aQ 52 0] [0,6,7,8,9,40,41,50,51,52]
abbrev apO:=J [b0 53 .lss 52 51] [0,6,7,8,9,40,41,50,51,52,53]
abbrev apQ:=J [bi 54 6 50 52,aY 55 6 54,cy 11 [.str [],ae,ae,ae,ae,ae],br 6 11 55] [0,6,7,8,9,11,40,41,50,51,52]
abbrev apR:=al (di [I 56 6,I 57 9,b2 58 56,ai 59 7 58,a0 60 (.gy 9 1 (ab 59) (ab 57)),am 61 60,bD 62 .lss 61 0,aN 63 62,ax 63 (aY 64 6 11),ax 63 (I 65 7),ax 63 (I 66 9),ax 63 (a0 67 (.slice 4 (ab 65) (some (ab 66)) none none)),ax 63 (cW 68 D1 [ab 64,ab 67]),ax 63 (cM 69 68),cC 70 63 69] [U,U,U,U,U,U,U,U,U,U,U,U,ff,U,U] [0,6,7,8,9,11,40,41,50,51,52,70]) (aH 70 (bS 3) aC)
abbrev apS:a6:=.float [I 71 6,I 72 9,b2 73 71,ai 74 7 73,a0 75 (.gy 9 1 (ab 74) (ab 72)),am 76 75,I 77 6,aY 78 6 11,I 79 7,I 80 9,bt 81 DQ [ab 77,ab 78,ab 79,ab 80],b0 82 .add 76 81,I 12 82] [none,none,none,none,none,none,none,none,none,none,(some [0,1,2,3,4,5]),none,none] [0,6,7,8,9,12,40,41,50,51,52]
abbrev apT:=J [I 90 12,I 8 90] [0,6,7,8,9,40,41,50,51,52]
abbrev apU:=al (J [I 83 8,bD 84 .lss 83 0,aN 85 84,ax 85 (I 86 12),ax 85 (I 87 8),ax 85 (bv 88 .lss 86 87),cC 89 85 88] [0,6,7,8,9,12,40,41,50,51,52,89]) (aH 89 apT aC)
abbrev apV:=J [be 91 .add 52 1,I 52 91] [0,6,7,8,9,40,41,50,51,52]
abbrev apW:=J [be 92 .add 41 1,I 41 92] [0,6,7,8,40,41]
abbrev apY:=di [I 93 6,I 94 6,b2 95 94,ai 96 6 95,am 97 96,I 98 8,b2 99 93,ai 100 7 99,a0 101 (.gy 9 1 (ab 100) (ab 97)),br 1 101 98] [U,U,U,U,U,U,U,U,U,ff] [6]
abbrev Q6:a6:=ba 65 (J [I 102 6,I 4 102,aQ 5 0] [4,5])
theorem aDX(P:Program)(Q:Exit->aI->Mem->Prop)(s:aI)(M:Mem):dn P Q6 Q s M=@nn P [I 102 6,I 4 102,aQ 5 0] M ⟨s,fun aO ah=>Q .normal (g7 aO [4,5]) ah⟩:=rfl
def BW:bs:=⟨103,[(.tmp 4),(.tmp 5)],cb apF apX (iL apG apH apI apJ (al apK (bb 0 (cg [0,6,7,8,40,41] (cv apL (aH 42 aC (bS 0)) (bb 1 (cb apM apN (bb 2 (cg [0,6,7,8,9,40,41,50,51,52] (cv apO (aH 53 aC (bS 2)) (bb 3 (cv apQ apR apS apU)) apV))))) apW)))) apY Q6 aR)⟩
theorem SN:bB au (bE au Ip BW [(15,[9999])]) Ip=some BW:=by kernel_rfl
abbrev avL:=J [cu 2 4 0,aQ 4 0] [1,2]
abbrev avP:=J [aY 8 4 2,bt 9 Ab [ab 8],I 7 9,c_ 10 7 0,c_ 11 7 1,I 5 10,I 6 11] [1,6]
abbrev avQ:=J [aQ 4 20] [4]
abbrev avR:=al (J [I 12 6,bD 13 .neq 12 0] [1,13]) (aH 13 (al avQ aR) aC)
abbrev avM:=J [aQ 4 33] [4]
abbrev avN:=al (J [I 14 1,bF 15 14,bD 16 .gtr 15 8] [16]) (aH 16 (al avM aR) aC)
abbrev avO:=J [aQ 4 0] [4]
def BS:bs:=⟨17,[(.tmp 4)],f3 avL (al avP avR) avN avO aR⟩
theorem SJ:bB au (bE au Im BS []) Im=some BS:=by kernel_rfl
abbrev avS:=J [cu 2 4 0,cu 3 1 1,cy 4 [b3,ae,ae,ae,ae,ae,ae,b3,ae,ae,ae,ae,ae,ae,b3,ae,ae,ae,ae,ae,ae,b3,ae,ae,ae,ae,ae,ae,b3,ae,ae,ae,ae,ae,ae,b3,ae,ae,ae,ae,ae,ae,b3,ae,ae,ae,ae,ae,ae,b3,ae,ae,ae,ae,ae,ae,b3,ae,ae,ae,ae,ae,ae]] [2,3,4]
abbrev av2:=J [cy 5 [b3,ae,ae,ae,ae,ae,ae,b3,ae,ae,ae,ae,ae,ae,b3,ae,ae,ae,ae,ae,ae,b3,ae,ae,ae,ae,ae,ae,b3,ae,ae,ae,ae,ae,ae,b3,ae,ae,ae,ae,ae,ae,b3,ae,ae,ae,ae,ae,ae,b3,ae,ae,ae,ae,ae,ae,b3,ae,ae,ae,ae,ae,ae]] [2,3,4,5]
abbrev av6:=J [am 11 3,bF 12 11,I 6 12] [2,3,4,5,6]
abbrev av8:=J [I 13 6,a0 14 (.gy 9 7 (ab 5) (ab 13)),ai 15 0 14,lP (.store 1 (ab 15) fU)] [2,3,4,5,6]
abbrev av9:=J [a0 16 (.lO xU [ab 2,ab 3,ab 5]),I 7 16] [2,4,5,6,7]
abbrev avT:=J [I 17 6,be 18 .sub 17 1,I 8 18] [2,4,5,6,7,8]
abbrev avU:=al (J [I 19 8,bD 20 .geq 19 0] [2,4,5,6,7,8,20]) (aH 20 aC (bS 0))
abbrev avV:=J [I 23 8,I 9 23] [2,4,5,6,7,8,9]
abbrev avW:=al (J [I 24 9,I 25 6,bv 26 .lss 24 25] [2,4,5,6,7,8,9,26]) (aH 26 aC (bS 2))
abbrev avX:=J [ai 29 0 2,am 30 29,bF 31 30,aQ 32 0] [2,4,5,6,7,8,9,31,32]
abbrev avY:=J [b0 33 .lss 32 31] [2,4,5,6,7,8,9,31,32,33]
abbrev avZ:=J [I 34 32,I 10 34] [2,4,5,6,7,8,9,10,31,32]
abbrev av0:=J [I 40 7,I 41 8,I 42 9,I 43 10,a0 44 (.fX (ab 40) [ab 41,ab 42,ab 43])] [2,4,5,6,7,8,9,31,32]
abbrev av1:=al (J [I 35 9,be 36 .add 35 1,a0 37 (.gy 9 7 (ab 5) (ab 36)),ai 38 0 37,eJ 39 38] [2,4,5,6,7,8,9,10,31,32,39]) (aH 39 av0 aC)
abbrev av3:=J [be 45 .add 32 1,I 32 45] [2,4,5,6,7,8,9,31,32]
abbrev av4:=J [I 27 9,be 28 .add 27 1,I 9 28] [2,4,5,6,7,8,9]
abbrev av5:=J [I 21 8,be 22 .sub 21 1,I 8 22] [2,4,5,6,7,8]
abbrev av7:=J [aY 46 63 5,br 63 4 46] [4]
def BO:bs:=⟨47,[(.cell 4 63 true)],iL avS av2 av6 av8 av9 (al avT (bb 0 (cg [2,4,5,6,7,8] (cb avU (bb 1 (al avV (bb 2 (cg [2,4,5,6,7,8,9] (cb avW (bb 3 (al avX (bb 4 (cg [2,4,5,6,7,8,9,31,32] (cv avY (aH 33 aC (bS 4)) (bb 5 (al avZ av1)) av3))))) av4))))) av5)))) av7 aR⟩
theorem SG:bB au (bE au Ij BO []) Ij=some BO:=by kernel_rfl
abbrev av_:=J [cu 2 4 0,aQ 4 0] [1,2]
abbrev awa:=J [ai 14 3 2,am 15 14,I 4 15] [4]
abbrev awb:=al (J [ai 5 3 2,am 6 5,bD 7 .gtr 6 0,aN 8 7,av 8 (I 9 1),av 8 (ai 10 3 2),av 8 (am 11 10),av 8 (bv 12 .gtr 9 11),cG 13 8 12] [1,2,13]) (aH 13 (al awa aR) aC)
abbrev awc:=J [I 16 1,I 4 16] [4]
def BN:bs:=⟨17,[(.tmp 4)],cv av_ awb awc aR⟩
theorem SE:bB au (bE au Ii BN []) Ii=some BN:=by kernel_rfl
abbrev awd:=J [cu 1 4 0,aQ 2 0,aQ 3 0] [1]
abbrev awm:=J [aQ 2 (-1),aQ 3 2] [2,3]
abbrev awt:=al (J [ai 7 1 1,am 8 7,cW 9 rR [ab 8,bX 0,bX 1000000],cM 10 9,aN 11 10,ax 11 (ai 12 2 1),ax 11 (am 13 12),ax 11 (cW 14 rR [ab 13,bX 0,bX 86400]),ax 11 (cM 15 14),cC 16 11 15,aN 17 16,ax 17 (ai 18 3 1),ax 17 (am 19 18),ax 17 (cW 20 rR [ab 19,bX 0,bX 1000000]),ax 17 (cM 21 20),cC 22 17 21] [1,22]) (aH 22 (al awm aR) aC)
abbrev awu:=J [aQ 2 0,aQ 3 5] [2,3]
abbrev awe:=al (J [ai 23 0 1,am 24 23,bF 25 24,bD 26 .gtr 25 16] [1,26]) (aH 26 (al awu aR) aC)
abbrev awf:=J [a0 27 (.makeMap none),I 4 27] [1,4]
abbrev awg:=J [ai 28 0 1,am 29 28,bF 30 29,aQ 31 0] [4,29,30,31]
abbrev awh:=J [b0 32 .lss 31 30] [4,29,30,31,32]
abbrev awi:=J [I 33 31,bi 34 6 29 31,aY 35 6 34,cy 6 [.str [],ae,ae,ae,ae,ae],I 5 33,br 6 6 35] [4,5,6,29,30,31]
abbrev awj:=J [I 40 5,I 2 40,aQ 3 12] [2,3]
abbrev awk:=al (J [ai 36 0 6,am 37 36,cW 38 xY [ab 37],cM 39 38] [4,5,6,29,30,31,39]) (aH 39 (al awj aR) aC)
abbrev awl:=J [I 45 5,I 2 45,aQ 3 6] [2,3]
abbrev awn:=al (J [I 41 4,ai 42 0 6,am 43 42,d8 44 (.lookup .str [b3] false false (ab 41) (ab 43))] [4,5,6,29,30,31,44]) (aH 44 (al awl aR) aC)
abbrev awo:=J [I 74 5,I 2 74,aQ 3 2] [2,3]
abbrev awp:=al (J [ai 46 1 6,am 47 46,cW 48 rR [ab 47,bX 0,bX 1000000],cM 49 48,aN 50 49,ax 50 (ai 51 2 6),ax 50 (am 52 51),ax 50 (cW 53 rR [ab 52,bX 1,bX 8]),ax 50 (cM 54 53),cC 55 50 54,aN 56 55,ax 56 (ai 57 3 6),ax 56 (am 58 57),ax 56 (cW 59 rR [ab 58,bX 1,bX 16]),ax 56 (cM 60 59),cC 61 56 60,aN 62 61,ax 62 (ai 63 4 6),ax 62 (am 64 63),ax 62 (cW 65 rR [ab 64,bX 0,bX 86400]),ax 62 (cM 66 65),cC 67 62 66,aN 68 67,ax 68 (ai 69 5 6),ax 68 (am 70 69),ax 68 (cW 71 rR [ab 70,bX 1,bX 255]),ax 68 (cM 72 71),cC 73 68 72] [4,5,6,29,30,31,73]) (aH 73 (al awo aR) aC)
abbrev awq:=J [I 75 4,ai 76 0 6,am 77 76,lP (.mapUpdate .str (ab 75) (ab 77) fU)] [4,29,30,31]
abbrev awr:=J [be 78 .add 31 1,I 31 78] [4,29,30,31]
abbrev aws:=J [aQ 2 0,aQ 3 0] [2,3]
def Cv:bs:=⟨79,[(.tmp 2),(.tmp 3)],uh awd awt awe awf (al awg (bb 0 (cg [4,29,30,31] (cv awh (aH 32 aC (bS 0)) (bb 1 (f3 awi awk awn awp awq)) awr)))) aws aR⟩
theorem Tk:bB au (bE au Ab Cv []) Ab=some Cv:=by kernel_rfl
abbrev awv:=J [d9 2 fu] [0]
abbrev awz:=J [I 5 0,b2 6 5,ai 7 6 6,am 8 7,a0 9 (.makeSlice [ae,ae,ae,ae] 4 32 (ab 8) (ab 8)),I 3 9] [0,3]
abbrev awA:=J [I 10 0,b2 11 10,ai 12 6 11,am 13 12,be 14 .sub 13 1,I 4 14] [0,3,4]
abbrev awB:=al (J [I 15 4,bD 16 .geq 15 0] [0,3,4,16]) (aH 16 aC (bS 0))
abbrev awC:=J [I 19 3,I 20 4,I 21 0,b2 22 21,ai 23 2 22,aY 24 4 23,bi 25 4 19 20,br 4 25 24] [0,3,4]
abbrev aww:=J [I 26 0,b2 27 26,ai 28 1 27,am 29 28,I 0 29] [0,3,4]
abbrev awx:=J [I 17 4,be 18 .sub 17 1,I 4 18] [0,3,4]
abbrev awy:=J [I 30 3,I 2 30] [2]
def BX:bs:=⟨31,[(.tmp 2)],f3 awv awz (al awA (bb 0 (cg [0,3,4] (cb awB (bb 1 (al awC aww)) awx)))) awy aR⟩
theorem SO:bB au (bE au DP BX []) DP=some BX:=by kernel_rfl
abbrev awD:=J [cu 2 6 0,cl 4 cU] [1,2]
abbrev awL:=J [I 11 1,bF 12 11,I 5 12] [1,2,5]
abbrev awN:=J [cl 4 cU] [4]
abbrev awO:=al (di [I 13 5,bD 14 .eql 13 0,aN 15 14,ax 15 (I 16 5),ax 15 (ai 17 2 2),ax 15 (am 18 17),ax 15 (bv 19 .gtr 16 18),cC 20 15 19,aN 21 20,ax 21 (I 22 1),ax 21 (a0 23 (.mH 4 (ab 22) (bX 0))),ax 21 (ai 24 0 23),ax 21 (am 25 24),ax 21 (I 26 1),ax 21 (I 27 5),ax 21 (be 28 .sub 27 1),ax 21 (bi 29 4 26 28),ax 21 (ai 30 0 29),ax 21 (am 31 30),ax 21 (ai 32 4 2),ax 21 (am 33 32),ax 21 (cW 34 I6 [ab 25,ab 31,ab 33]),cC 35 21 34] [U,U,U,U,U,U,U,U,U,U,U,U,U,U,U,U,U,U,U,U,U,ff,U] [1,2,35]) (aH 35 (al awN aR) aC)
abbrev awE:=J [cy 6 [.int .u64 0],cy 7 [.int .u64 0]] [1,2,6,7]
abbrev awF:=J [a0 36 (.lO D2 [ab 6,ab 7]),I 8 36] [1,2,6,7,8]
abbrev awG:=J [I 37 1,bF 38 37,aQ 39 0] [2,6,7,8,37,38,39]
abbrev awH:=J [b0 40 .lss 39 38] [2,6,7,8,37,38,39,40]
abbrev awI:=J [bi 41 4 37 39,aY 42 4 41,cy 10 [ae,ae,ae,ae],br 4 10 42] [2,6,7,8,10,37,38,39]
abbrev awJ:=J [I 43 8,aY 44 4 10,a0 45 (.fX (ab 43) [ab 44])] [2,6,7,8,37,38,39]
abbrev awK:=J [be 46 .add 39 1,I 39 46] [2,6,7,8,37,38,39]
abbrev awM:=di [am 47 6,bt 48 H_ [ab 47],ai 49 3 2,am 50 49,bv 51 .leq 48 50,aN 52 51,av 52 (am 53 7),av 52 (ai 54 5 2),av 52 (am 55 54),av 52 (a0 56 (.conv .u64 (ab 55))),av 52 (cW 57 Ib [ab 53,ab 56]),cG 58 52 57,aN 4 58] [U,U,U,U,U,U,U,U,U,U,ff,U,U] [4]
def Cw:bs:=⟨59,[(.tmp 4)],iL awD awL awO awE awF (al awG (bb 0 (cg [2,6,7,8,37,38,39] (cv awH (aH 40 aC (bS 0)) (bb 1 (al awI awJ)) awK)))) awM aR⟩
theorem Tm:bB au (bE au D1 Cw []) D1=some Cw:=by kernel_rfl
abbrev awP:=J [cu 5 6 1,aQ 8 0] [0,2,3,5]
abbrev awQ:=di [ai 32 1 5,am 33 32,I 34 0,b2 35 34,ai 36 0 35,am 37 36,b2 38 37,ai 39 1 38,am 40 39,b0 41 .sub 33 40,a0 42 (.nP true (bX 0) (ab 41)),I 8 42] [U,U,U,U,U,U,U,U,U,U,U,U] [8]
abbrev awR:=al (di [I 9 3,bD 10 .gtr 9 0,aN 11 10,av 11 (I 12 2),av 11 (I 13 3),av 11 (be 14 .sub 13 1),av 11 (bi 15 4 12 14),av 11 (ai 16 1 15),av 11 (am 17 16),av 11 (I 18 2),av 11 (I 19 3),av 11 (bi 20 4 18 19),av 11 (ai 21 0 20),av 11 (am 22 21),av 11 (I 23 0),av 11 (b2 24 23),av 11 (ai 25 0 24),av 11 (am 26 25),av 11 (b2 27 26),av 11 (ai 28 2 27),av 11 (am 29 28),av 11 (cW 30 It [ab 17,ab 22,ab 29]),cG 31 11 30] [U,U,U,U,U,U,U,U,U,U,U,U,U,U,U,U,U,U,U,U,U,ff,U] [0,5,31]) (aH 31 (al awQ aR) aC)
abbrev awS:=J [ai 43 1 5,am 44 43,I 8 44] [8]
def BY:bs:=⟨45,[(.tmp 8)],cv awP awR awS aR⟩
theorem SP:bB au (bE au DQ BY []) DQ=some BY:=by kernel_rfl
abbrev aBL:=al (di [ai 12 0 3,am 13 12,I 14 2,bi 15 6 13 14,aY 16 6 15,am 17 4,I 18 0,I 19 1,be 20 .add 19 1,a0 21 (.slice 4 (ab 17) (some (ab 18)) (some (ab 20)) none),cW 22 D1 [ab 16,ab 21],cM 23 22] [U,U,U,U,U,U,U,U,U,U,ff,U] [0,1,2,3,4,5,23]) (aH 23 aR aC)
abbrev aBM:=di [aY 24 4 3,ai 25 0 3,am 26 25,I 27 2,bi 28 6 26 27,aY 29 6 28,am 30 4,I 31 0,bt 32 Il [ab 24,ab 29,ab 30,ab 31],I 9 32] [U,U,U,U,U,U,U,U,ff,U] [0,1,2,5,9]
abbrev aBN:=di [I 33 9,I 34 1,be 35 .add 34 1,a0 36 (.gy 9 7 (ab 5) (ab 35)),ai 37 1 36,am 38 37,b0 39 .add 33 38,I 40 1,be 41 .add 40 1,a0 42 (.gy 9 7 (ab 5) (ab 41)),ai 43 2 42,am 44 43,be 45 .add 44 1,I 10 39,I 11 45] [U,U,U,U,U,U,U,U,U,U,U,U,U,U,U] [0,1,2,5,9,10,11]
abbrev aBO:=J [I 52 0,I 53 10,I 54 11,I 55 2,I 56 0,I 57 1,I 58 9,a0 59 (.build [ae,ae,ae,ae] [(0,(1,(ab 55))),(1,(1,(ab 56))),(2,(1,(ab 57))),(3,(1,(ab 58)))]),a0 60 (.build [b3,ae,ae,ae,ae,ae,ae] [(0,(1,(.const (.bool true)))),(1,(1,(ab 53))),(2,(1,(ab 54))),(3,(4,(ab 59)))]),a0 61 (.gy 9 7 (ab 5) (ab 52)),br 7 61 60] []
abbrev aBP:=al (J [I 46 0,a0 47 (.gy 9 7 (ab 5) (ab 46)),aY 48 7 47,I 49 10,I 50 11,cW 51 Ik [ab 48,ab 49,ab 50]] [0,1,2,5,9,10,11,51]) (aH 51 aBO aC)
def BP:bs:=⟨62,[],cv aBL aBM aBN aBP⟩
theorem SF:bB au (bE au xU BP []) xU=some BP:=by kernel_rfl
abbrev aBQ:=J [cu 4 4 0,cu 5 6 1,aQ 8 0] [2,3,4,5]
abbrev aBR:=J [ai 27 1 5,am 28 27,ai 29 1 4,am 30 29,b0 31 .sub 28 30,a0 32 (.nP true (bX 0) (ab 31)),I 8 32] [8]
abbrev aBS:=al (di [I 9 3,bD 10 .gtr 9 0,aN 11 10,av 11 (I 12 2),av 11 (I 13 3),av 11 (be 14 .sub 13 1),av 11 (bi 15 4 12 14),av 11 (ai 16 1 15),av 11 (am 17 16),av 11 (I 18 2),av 11 (I 19 3),av 11 (bi 20 4 18 19),av 11 (ai 21 0 20),av 11 (am 22 21),av 11 (ai 23 2 4),av 11 (am 24 23),av 11 (cW 25 In [ab 17,ab 22,ab 24]),cG 26 11 25] [U,U,U,U,U,U,U,U,U,U,U,U,U,U,U,U,ff,U] [4,5,26]) (aH 26 (al aBR aR) aC)
abbrev aBT:=J [ai 33 1 5,am 34 33,I 8 34] [8]
def BR:bs:=⟨35,[(.tmp 8)],cv aBQ aBS aBT aR⟩
theorem SI:bB au (bE au Il BR []) Il=some BR:=by kernel_rfl
abbrev aBU:=J [cu 3 7 0,cl 6 cU] [1,2,3]
abbrev aBV:=J [ai 7 0 3,eJ 8 7,cM 9 8,aN 10 9,ax 10 (I 11 1),ax 10 (ai 12 1 3),ax 10 (am 13 12),ax 10 (bv 14 .lss 11 13),cC 15 10 14,aN 16 15,ax 16 (I 17 1),ax 16 (ai 18 1 3),ax 16 (am 19 18),ax 16 (bv 20 .eql 17 19),ax 16 (aN 21 20),av 21 (I 22 2),av 21 (ai 23 2 3),av 21 (am 24 23),av 21 (bv 25 .lss 22 24),ax 16 (cG 26 21 25),cC 27 16 26,aN 6 27] [6]
def BQ:bs:=⟨28,[(.tmp 6)],cb aBU aBV aR⟩
theorem SH:bB au (bE au Ik BQ []) Ik=some BQ:=by kernel_rfl
abbrev aBW:=J [cl 6 cU] [0,1,2]
abbrev aBX:=J [I 7 0,I 8 1,bv 9 .geq 7 8,aN 10 9,av 10 (I 11 0),av 10 (I 12 2),av 10 (bv 13 .leq 11 12),cG 14 10 13,aN 6 14] [6]
def Cz:bs:=⟨15,[(.tmp 6)],cb aBW aBX aR⟩
theorem To:bB au (bE au rR Cz []) rR=some Cz:=by kernel_rfl
abbrev aCg:=J [cl 6 cU] [0,1,2]
abbrev aCh:=J [I 10 2,bD 11 .lss 10 0,aN 12 11,ax 12 (I 13 1),ax 12 (a0 14 (.conv .u64 (ab 13))),ax 12 (I 15 0),ax 12 (a0 16 (.conv .u64 (ab 15))),ax 12 (b0 17 .sub 14 16),ax 12 (I 18 2),ax 12 (a0 19 (.conv .u64 (ab 18))),ax 12 (bv 20 .gtr 17 19),cC 21 12 20,aN 6 21] [6]
abbrev aCi:=al (J [I 7 1,I 8 0,bv 9 .geq 7 8] [0,1,2,9]) (aH 9 (al aCh aR) aC)
abbrev aCj:=J [I 22 2,bD 23 .lss 22 0,aN 24 23,av 24 (I 25 0),av 24 (a0 26 (.conv .u64 (ab 25))),av 24 (I 27 1),av 24 (a0 28 (.conv .u64 (ab 27))),av 24 (b0 29 .sub 26 28),av 24 (I 30 2),av 24 (a0 31 (.conv .u64 (ab 30))),av 24 (a0 32 (.un .neg (ab 31))),av 24 (bv 33 .lss 29 32),cG 34 24 33,aN 6 34] [6]
def Cy:bs:=⟨35,[(.tmp 6)],cv aCg aCi aCj aR⟩
theorem Tn:bB au (bE au I6 Cy []) I6=some Cy:=by kernel_rfl
abbrev aCk:=J [cu 3 4 0] [1,2,3]
abbrev aCl:=J [am 4 1,ai 5 2 3,am 6 5,a0 7 (.conv .u64 (ab 6)),bt 8 DG [ab 4,ab 7],br 1 1 8] [2,3]
abbrev aCm:=J [am 9 2,ai 10 3 3,am 11 10,a0 12 (.conv .u64 (ab 11)),bt 13 DG [ab 9,ab 12],br 1 2 13] []
def Cx:bs:=⟨14,[],cb aCk aCl aCm⟩
theorem Tl:bB au (bE au D2 Cx []) D2=some Cx:=by kernel_rfl
abbrev aCB:=J [cl 6 cU] [0,1,2]
abbrev aCC:=J [I 7 1,I 8 0,bv 9 .leq 7 8,aN 10 9,ax 10 (I 11 1),ax 10 (a0 12 (.conv .u64 (ab 11))),ax 10 (I 13 0),ax 10 (a0 14 (.conv .u64 (ab 13))),ax 10 (b0 15 .sub 12 14),ax 10 (I 16 2),ax 10 (a0 17 (.conv .u64 (ab 16))),ax 10 (bv 18 .leq 15 17),cC 19 10 18,aN 6 19] [6]
def B3:bs:=⟨20,[(.tmp 6)],cb aCB aCC aR⟩
theorem SV:bB au (bE au It B3 []) It=some B3:=by kernel_rfl
abbrev ahH:=J [cl 6 cU] [0,1,2]
abbrev ahI:=J [I 7 1,I 8 0,bv 9 .leq 7 8,aN 10 9,ax 10 (I 11 1),ax 10 (a0 12 (.conv .u64 (ab 11))),ax 10 (I 13 0),ax 10 (a0 14 (.conv .u64 (ab 13))),ax 10 (b0 15 .sub 12 14),ax 10 (I 16 2),ax 10 (a0 17 (.conv .u64 (ab 16))),ax 10 (bv 18 .leq 15 17),cC 19 10 18,aN 6 19] [6]
def BT:bs:=⟨20,[(.tmp 6)],cb ahH ahI aR⟩
theorem SK:bB au (bE au In BT []) In=some BT:=by kernel_rfl
abbrev aid:=J [aQ 2 0] [0]
abbrev aie:=J [I 3 0,a0 4 (.conv .u32 (ab 3)),bt 5 NO [ab 4],I 2 5] [2]
abbrev aif:=J [I 6 0,bt 7 IM [ab 6],I 2 7] [2]
def zv:bs:=⟨8,[(.tmp 2)],cv aid (.cond (.const (.bool false)) (al aie aR) aC) aif aR⟩
theorem Tc:bB au (bE au DZ zv []) DZ=some zv:=by kernel_rfl
abbrev ajn:=J [cl 4 cU] [0,1]
abbrev ajw:=J [cl 4 cU] [4]
abbrev ajC:=al (di [I 11 0,d8 12 (.bin .eql .ptr (ab 11) (.const .dE)),aN 13 12,ax 13 (I 14 1),ax 13 (d8 15 (.bin .eql .ptr (ab 14) (.const .dE))),cC 16 13 15,aN 17 16,ax 17 (I 18 0),ax 17 (b2 19 18),ax 17 (ai 20 0 19),ax 17 (am 21 20),ax 17 (I 22 1),ax 17 (b2 23 22),ax 17 (ai 24 0 23),ax 17 (am 25 24),ax 17 (cW 26 Is [ab 21,ab 25]),ax 17 (cM 27 26),cC 28 17 27,aN 29 28,ax 29 (I 30 0),ax 29 (I 31 1),ax 29 (cW 32 Iq [ab 30,ab 31]),ax 29 (cM 33 32),cC 34 29 33] [U,U,U,U,U,U,U,U,U,U,U,U,U,U,U,ff,U,U,U,U,U,ff,U,U] [0,1,34]) (aH 34 (al ajw aR) aC)
abbrev ajD:=J [I 35 0,bt 36 DR [ab 35],I 5 36] [1,5]
abbrev ajo:=J [I 37 1,bt 38 DR [ab 37],bF 39 38,aQ 40 0] [5,38,39,40]
abbrev ajp:=J [b0 41 .lss 40 39] [5,38,39,40,41]
abbrev ajq:=J [bi 42 5 38 40,aY 43 5 42,cy 7 [ae,ae,ae,ae,.int .u64 0],br 5 7 43] [5,7,38,39,40]
abbrev ajr:=J [cl 8 cU] [5,7,8,38,39,40]
abbrev ajs:=J [I 44 5,bF 45 44,aQ 46 0] [5,7,8,38,39,40,44,45,46]
abbrev ajt:=J [b0 47 .lss 46 45] [5,7,8,38,39,40,44,45,46,47]
abbrev aju:=J [bi 48 5 44 46,aY 49 5 48,cy 10 [ae,ae,ae,ae,.int .u64 0],br 5 10 49] [5,7,8,10,38,39,40,44,45,46]
abbrev ajv:=J [aN 50 8,aN 51 50,ax 51 (aY 52 5 10),ax 51 (aY 53 5 7),ax 51 (cW 54 Ir [ab 52,ab 53]),cC 55 51 54,aN 8 55] [5,7,8,38,39,40,44,45,46]
abbrev ajx:=J [be 56 .add 46 1,I 46 56] [5,7,8,38,39,40,44,45,46]
abbrev ajy:=J [cl 4 cU] [4]
abbrev ajz:=al (J [aN 57 8,cM 58 57] [5,38,39,40,58]) (aH 58 (al ajy aR) aC)
abbrev ajA:=J [be 59 .add 40 1,I 40 59] [5,38,39,40]
abbrev ajB:=J [cl 4 fU] [4]
def BV:bs:=⟨60,[(.tmp 4)],hM ajn ajC ajD (al ajo (bb 0 (cg [5,38,39,40] (cv ajp (aH 41 aC (bS 0)) (bb 1 (cv ajq ajr (al ajs (bb 2 (cg [5,7,8,38,39,40,44,45,46] (cv ajt (aH 47 aC (bS 2)) (bb 3 (al aju ajv)) ajx)))) ajz)) ajA)))) ajB aR⟩
theorem SM:bB au (bE au Io BV []) Io=some BV:=by kernel_rfl
abbrev am6:=J [aQ 2 0] [0,2]
abbrev ana:=J [I 5 0,a0 6 (.bin .shr .none (ab 5) (.const (.int .u64 16))),I 0 6] [0]
abbrev anb:=J [aQ 2 16] [0,2]
abbrev anc:=al (J [I 3 0,d8 4 (.bin .geq .none (ab 3) (.const (.int .u32 65536)))] [0,2,4]) (aH 4 (al ana anb) aC)
abbrev am7:=J [I 9 0,a0 10 (.bin .shr .none (ab 9) (.const (.int .u64 8))),I 0 10] [0,2]
abbrev am8:=J [I 11 2,be 12 .add 11 8,I 2 12] [0,2]
abbrev am9:=al (J [I 7 0,d8 8 (.bin .geq .none (ab 7) (.const (.int .u32 256)))] [0,2,8]) (aH 8 (al am7 am8) aC)
abbrev am_:=J [I 13 2,I 14 0,a0 15 (.conv .u8 (ab 14)),a0 16 (.pD (.const (.str [0,1,2,2,3,3,3,3,4,4,4,4,4,4,4,4,5,5,5,5,5,5,5,5,5,5,5,5,5,5,5,5,6,6,6,6,6,6,6,6,6,6,6,6,6,6,6,6,6,6,6,6,6,6,6,6,6,6,6,6,6,6,6,6,7,7,7,7,7,7,7,7,7,7,7,7,7,7,7,7,7,7,7,7,7,7,7,7,7,7,7,7,7,7,7,7,7,7,7,7,7,7,7,7,7,7,7,7,7,7,7,7,7,7,7,7,7,7,7,7,7,7,7,7,7,7,7,7,8,8,8,8,8,8,8,8,8,8,8,8,8,8,8,8,8,8,8,8,8,8,8,8,8,8,8,8,8,8,8,8,8,8,8,8,8,8,8,8,8,8,8,8,8,8,8,8,8,8,8,8,8,8,8,8,8,8,8,8,8,8,8,8,8,8,8,8,8,8,8,8,8,8,8,8,8,8,8,8,8,8,8,8,8,8,8,8,8,8,8,8,8,8,8,8,8,8,8,8,8,8,8,8,8,8,8,8,8,8,8,8,8,8,8,8,8,8,8,8,8,8,8,8,8,8,8,8])) (ab 15)),a0 17 (.conv .i64 (ab 16)),b0 18 .add 13 17,I 2 18] [2]
def Mm:bs:=⟨19,[(.tmp 2)],f3 am6 anc am9 am_ aR⟩
theorem aFM:bB au (bE au NO Mm []) NO=some Mm:=by kernel_rfl
abbrev ane:=J [aQ 2 0] [0,2]
abbrev anm:=J [I 5 0,a0 6 (.bin .shr .none (ab 5) (.const (.int .u64 32))),I 0 6] [0]
abbrev ann:=J [aQ 2 32] [0,2]
abbrev ano:=al (J [I 3 0,d8 4 (.bin .geq .none (ab 3) (.const (.int .u64 4294967296)))] [0,2,4]) (aH 4 (al anm ann) aC)
abbrev anf:=J [I 9 0,a0 10 (.bin .shr .none (ab 9) (.const (.int .u64 16))),I 0 10] [0,2]
abbrev ang:=J [I 11 2,be 12 .add 11 16,I 2 12] [0,2]
abbrev anh:=al (J [I 7 0,d8 8 (.bin .geq .none (ab 7) (.const (.int .u64 65536)))] [0,2,8]) (aH 8 (al anf ang) aC)
abbrev ani:=J [I 15 0,a0 16 (.bin .shr .none (ab 15) (.const (.int .u64 8))),I 0 16] [0,2]
abbrev anj:=J [I 17 2,be 18 .add 17 8,I 2 18] [0,2]
abbrev ank:=al (J [I 13 0,d8 14 (.bin .geq .none (ab 13) (.const (.int .u64 256)))] [0,2,14]) (aH 14 (al ani anj) aC)
abbrev anl:=J [I 19 2,I 20 0,a0 21 (.conv .u8 (ab 20)),a0 22 (.pD (.const (.str [0,1,2,2,3,3,3,3,4,4,4,4,4,4,4,4,5,5,5,5,5,5,5,5,5,5,5,5,5,5,5,5,6,6,6,6,6,6,6,6,6,6,6,6,6,6,6,6,6,6,6,6,6,6,6,6,6,6,6,6,6,6,6,6,7,7,7,7,7,7,7,7,7,7,7,7,7,7,7,7,7,7,7,7,7,7,7,7,7,7,7,7,7,7,7,7,7,7,7,7,7,7,7,7,7,7,7,7,7,7,7,7,7,7,7,7,7,7,7,7,7,7,7,7,7,7,7,7,8,8,8,8,8,8,8,8,8,8,8,8,8,8,8,8,8,8,8,8,8,8,8,8,8,8,8,8,8,8,8,8,8,8,8,8,8,8,8,8,8,8,8,8,8,8,8,8,8,8,8,8,8,8,8,8,8,8,8,8,8,8,8,8,8,8,8,8,8,8,8,8,8,8,8,8,8,8,8,8,8,8,8,8,8,8,8,8,8,8,8,8,8,8,8,8,8,8,8,8,8,8,8,8,8,8,8,8,8,8,8,8,8,8,8,8,8,8,8,8,8,8,8,8,8,8,8,8])) (ab 21)),a0 23 (.conv .i64 (ab 22)),b0 24 .add 19 23,I 2 24] [2]
def Ch:bs:=⟨25,[(.tmp 2)],hM ane ano anh ank anl aR⟩
theorem Tb:bB au (bE au IM Ch []) IM=some Ch:=by kernel_rfl
abbrev anS:=J [cl 4 cU] [0,1]
abbrev an1:=J [I 7 0,I 8 1,d8 9 (.oG false (ab 7) (ab 8))] [0,1,9]
abbrev an3:=J [cl 4 fU] [4]
abbrev anT:=J [cl 4 cU] [4]
abbrev anU:=al (di [I 10 0,b2 11 10,ai 12 0 11,am 13 12,bF 14 13,I 15 1,b2 16 15,ai 17 0 16,am 18 17,bF 19 18,bv 20 .neq 14 19,aN 21 20,ax 21 (I 22 0),ax 21 (b2 23 22),ax 21 (ai 24 1 23),ax 21 (am 25 24),ax 21 (I 26 1),ax 21 (b2 27 26),ax 21 (ai 28 1 27),ax 21 (am 29 28),ax 21 (bv 30 .neq 25 29),cC 31 21 30,aN 32 31,ax 32 (I 33 0),ax 32 (b2 34 33),ax 32 (ai 35 2 34),ax 32 (am 36 35),ax 32 (I 37 1),ax 32 (b2 38 37),ax 32 (ai 39 2 38),ax 32 (am 40 39),ax 32 (bv 41 .neq 36 40),cC 42 32 41,aN 43 42,ax 43 (I 44 0),ax 43 (b2 45 44),ax 43 (ai 46 3 45),ax 43 (am 47 46),ax 43 (I 48 1),ax 43 (b2 49 48),ax 43 (ai 50 3 49),ax 43 (am 51 50),ax 43 (bv 52 .neq 47 51),cC 53 43 52] [U,U,U,U,U,U,U,U,U,U,U,U,U,U,U,U,U,U,U,U,U,U,U,U,U,U,U,U,U,U,U,U,U,U,U,U,U,U,U,U,U,U,U,U] [0,1,53]) (aH 53 (al anT aR) aC)
abbrev anV:=J [I 54 0,b2 55 54,ai 56 0 55,am 57 56,bF 58 57,aQ 59 0] [1,57,58,59]
abbrev anW:=J [b0 60 .lss 59 58] [1,57,58,59,60]
abbrev anX:=J [I 61 59,bi 62 6 57 59,aY 63 6 62,cy 6 [.str [],ae,ae,ae,ae,ae],I 5 61,br 6 6 63] [1,5,6,57,58,59]
abbrev anY:=J [cl 4 cU] [4]
abbrev anZ:=al (di [aY 64 6 6,I 65 1,b2 66 65,ai 67 0 66,am 68 67,I 69 5,bi 70 6 68 69,aY 71 6 70,d8 72 (.bin .neq (.cells [.str,.int,.int,.int,.int,.int]) (ab 64) (ab 71))] [U,U,U,U,U,U,U,U,U] [1,57,58,59,72]) (aH 72 (al anY aR) aC)
abbrev an0:=J [be 73 .add 59 1,I 59 73] [1,57,58,59]
abbrev an2:=J [cl 4 fU] [4]
def B2:bs:=⟨74,[(.tmp 4)],hM anS (al an1 (aH 9 (al an3 aR) aC)) anU (al anV (bb 0 (cg [1,57,58,59] (cv anW (aH 60 aC (bS 0)) (bb 1 (al anX anZ)) an0)))) an2 aR⟩
theorem SU:bB au (bE au Is B2 [(1,[2])]) Is=some B2:=by kernel_rfl
abbrev an4:=J [cl 4 cU] [0,1]
abbrev an_:=di [I 7 0,I 8 0,b2 9 8,ai 10 6 9,am 11 10,b2 12 7,ai 13 7 12,a0 14 (.gy 9 1 (ab 13) (ab 11)),am 15 14,I 16 1,I 17 1,b2 18 17,ai 19 6 18,am 20 19,b2 21 16,ai 22 7 21,a0 23 (.gy 9 1 (ab 22) (ab 20)),am 24 23,I 5 15,I 6 24] [U,U,U,U,U,U,U,U,U,U,U,U,U,U,U,U,U,U,U,U] [0,1,5,6]
abbrev aoa:=J [cl 4 fU] [4]
abbrev aob:=J [cl 4 cU] [4]
abbrev an5:=J [cl 4 fU] [4]
abbrev an6:=al (J [I 37 0,b2 38 37,ai 39 0 38,am 40 39,b2 41 40,ai 42 1 41,am 43 42,bD 44 .eql 43 0,aN 45 44,ax 45 (I 46 1),ax 45 (b2 47 46),ax 45 (ai 48 6 47),ax 45 (am 49 48),ax 45 (bD 50 .eql 49 0),cC 51 45 50,aN 52 51,ax 52 (I 53 5),ax 52 (I 54 0),ax 52 (b2 55 54),ax 52 (ai 56 0 55),ax 52 (am 57 56),ax 52 (b2 58 57),ax 52 (ai 59 1 58),ax 52 (am 60 59),ax 52 (b0 61 .add 53 60),ax 52 (I 62 6),ax 52 (bv 63 .leq 61 62),cC 64 52 63,aN 36 64] [0,1,36]) (aH 36 (al an5 aR) aC)
abbrev an7:=al (J [I 29 5,bD 30 .lss 29 0,aN 31 30,ax 31 (I 32 5),ax 31 (I 33 6),ax 31 (bv 34 .gtr 32 33),cC 35 31 34,aN 28 35] [0,1,5,6,28]) (aH 28 (al aob aR) an6)
abbrev an8:=al (J [I 26 6,bD 27 .lss 26 0,aN 25 27] [0,1,5,6,25]) (aH 25 (al aoa aR) an7)
abbrev an9:=di [I 65 0,b2 66 65,ai 67 6 66,am 68 67,bD 69 .gtr 68 0,aN 70 69,av 70 (I 71 0),av 70 (b2 72 71),av 70 (ai 73 2 72),av 70 (ai 74 1 73),av 70 (am 75 74),av 70 (I 76 1),av 70 (b2 77 76),av 70 (ai 78 2 77),av 70 (ai 79 1 78),av 70 (am 80 79),av 70 (bv 81 .geq 75 80),cG 82 70 81,aN 4 82] [U,U,U,U,U,U,U,U,U,U,U,U,U,U,U,U,U,U,U] [4]
def B0:bs:=⟨83,[(.tmp 4)],f3 an4 an_ (bb 0 an8) an9 aR⟩
theorem SR:bB au (bE au Iq B0 []) Iq=some B0:=by kernel_rfl
abbrev aoc:=J [d9 2 fu] [0]
abbrev aol:=J [a0 3 (.pI 5)] [0,3]
abbrev aos:=J [I 12 0,bt 13 DP [ab 12],I 4 13] [0,3,4]
abbrev aov:=J [I 14 4,bF 15 14,aQ 16 0] [0,3,4,15,16]
abbrev aox:=J [b0 17 .lss 16 15] [0,3,4,15,16,17]
abbrev aod:=J [I 18 16,I 5 18] [0,3,4,5,15,16]
abbrev aoe:=al (J [I 19 0,I 20 5,b2 21 19,ai 22 7 21,a0 23 (.gy 9 1 (ab 22) (ab 20)),am 24 23,bD 25 .lss 24 0] [0,3,4,5,15,16,25]) (aH 25 (bS 1) aC)
abbrev aof:=J [d9 6 (.const (.int .u64 0)),d9 7 (.const (.int .u64 0))] [0,3,4,5,6,7,15,16]
abbrev aog:=J [I 26 4,I 27 5,a0 28 (.slice 4 (ab 26) (some (ab 27)) none none),bF 29 28,aQ 30 0] [0,3,4,5,6,7,15,16,28,29,30]
abbrev aoh:=J [b0 31 .lss 30 29] [0,3,4,5,6,7,15,16,28,29,30,31]
abbrev aoi:=J [bi 32 4 28 30,aY 33 4 32,cy 9 [ae,ae,ae,ae],br 4 9 33] [0,3,4,5,6,7,9,15,16,28,29,30]
abbrev aoj:=J [I 34 6,ai 35 2 9,am 36 35,a0 37 (.conv .u64 (ab 36)),b0 38 .or 34 37,I 6 38] [0,3,4,5,6,7,9,15,16,28,29,30]
abbrev aok:=J [I 39 7,ai 40 3 9,am 41 40,a0 42 (.conv .u64 (ab 41)),b0 43 .or 39 42,I 7 43] [0,3,4,5,6,7,15,16,28,29,30]
abbrev aom:=J [be 44 .add 30 1,I 30 44] [0,3,4,5,6,7,15,16,28,29,30]
abbrev aon:=J [I 45 0,b2 46 45,ai 47 0 46,am 48 47,b2 49 48,ai 50 0 49,am 51 50,bF 52 51,aQ 53 0] [0,3,4,5,6,7,15,16,51,52,53]
abbrev aoo:=J [b0 54 .lss 53 52] [0,3,4,5,6,7,15,16,51,52,53,54]
abbrev aop:=J [I 55 53,bi 56 6 51 53,aY 57 6 56,cy 11 [.str [],ae,ae,ae,ae,ae],I 10 55,br 6 11 57] [0,3,4,5,6,7,10,11,15,16,51,52,53]
abbrev aoq:=di [I 80 3,I 81 10,I 82 4,I 83 5,bi 84 4 82 83,ai 85 0 84,am 86 85,I 87 4,bF 88 87,I 89 5,b0 90 .sub 88 89,I 91 0,I 92 5,b2 93 91,ai 94 7 93,a0 95 (.gy 9 1 (ab 94) (ab 92)),am 96 95,I 97 0,aY 98 6 11,I 99 4,I 100 5,bt 101 DQ [ab 97,ab 98,ab 99,ab 100],b0 102 .add 96 101,I 103 6,a0 104 (.build [ae,ae,ae,ae,.int .u64 0] [(0,(1,(ab 81))),(1,(1,(ab 86))),(2,(1,(ab 90))),(3,(1,(ab 102))),(4,(1,(ab 103)))]),a0 105 (.buildSlice [ae,ae,ae,ae,.int .u64 0] 5 1 [(0,(5,(ab 104)))]),hR 106 5 40 80 105,I 3 106] [U,U,U,U,U,U,U,U,U,U,U,U,U,U,U,U,U,U,U,U,U,U,U,U,U,U,ff,U] [0,3,4,5,6,7,15,16,51,52,53]
abbrev aor:=al (di [I 58 4,bF 59 58,I 60 5,b0 61 .sub 59 60,ai 62 2 11,am 63 62,bv 64 .lss 61 63,aN 65 64,av 65 (I 66 6),av 65 (bt 67 IN [ab 66]),av 65 (ai 68 3 11),av 65 (am 69 68),av 65 (bv 70 .leq 67 69),cG 71 65 70,aN 72 71,av 72 (I 73 7),av 72 (ai 74 5 11),av 72 (am 75 74),av 72 (a0 76 (.conv .u64 (ab 75))),av 72 (b0 77 .andNot 73 76),av 72 (d8 78 (.bin .eql .none (ab 77) (.const (.int .u64 0)))),cG 79 72 78] [U,U,U,U,U,U,U,U,U,U,U,U,U,U,U,U,U,U,U,U,U,U] [0,3,4,5,6,7,10,11,15,16,51,52,53,79]) (aH 79 aoq aC)
abbrev aot:=J [be 107 .add 53 1,I 53 107] [0,3,4,5,6,7,15,16,51,52,53]
abbrev aou:=J [be 108 .add 16 1,I 16 108] [0,3,4,15,16]
abbrev aow:=J [I 109 3,I 2 109] [2]
def BZ:bs:=⟨110,[(.tmp 2)],hM aoc aol aos (al aov (bb 0 (cg [0,3,4,15,16] (cv aox (aH 17 aC (bS 0)) (bb 1 (hM aod aoe aof (al aog (bb 2 (cg [0,3,4,5,6,7,15,16,28,29,30] (cv aoh (aH 31 aC (bS 2)) (bb 3 (cb aoi aoj aok)) aom)))) aon (bb 4 (cg [0,3,4,5,6,7,15,16,51,52,53] (cv aoo (aH 54 aC (bS 4)) (bb 5 (al aop aor)) aot))))) aou)))) aow aR⟩
theorem SQ:bB au (bE au DR BZ [(1,[0])]) DR=some BZ:=by kernel_rfl
abbrev aoE:=J [cu 2 5 0,cu 3 5 1,cl 4 cU] [2,3]
abbrev aoF:=J [ai 5 0 2,am 6 5,ai 7 0 3,am 8 7,bv 9 .eql 6 8,aN 10 9,av 10 (ai 11 1 2),av 10 (am 12 11),av 10 (ai 13 1 3),av 10 (am 14 13),av 10 (bv 15 .geq 12 14),cG 16 10 15,aN 17 16,av 17 (ai 18 2 2),av 17 (am 19 18),av 17 (ai 20 2 3),av 17 (am 21 20),av 17 (bv 22 .leq 19 21),cG 23 17 22,aN 24 23,av 24 (ai 25 3 2),av 24 (am 26 25),av 24 (ai 27 3 3),av 24 (am 28 27),av 24 (bv 29 .leq 26 28),cG 30 24 29,aN 31 30,av 31 (ai 32 4 2),av 31 (am 33 32),av 31 (ai 34 4 3),av 31 (am 35 34),av 31 (b0 36 .andNot 33 35),av 31 (d8 37 (.bin .eql .none (ab 36) (.const (.int .u64 0)))),cG 38 31 37,aN 4 38] [4]
def B1:bs:=⟨39,[(.tmp 4)],cb aoE aoF aR⟩
theorem SS:bB au (bE au Ir B1 []) Ir=some B1:=by kernel_rfl
abbrev ap7:=J [aQ 2 0] [0]
abbrev aqa:=J [I 3 0,a0 4 (.bin .shr .none (ab 3) (.const (.int .u64 1))),a0 5 (.bin .and .none (ab 4) (.const (.int .u64 6148914691236517205))),I 6 0,a0 7 (.bin .and .none (ab 6) (.const (.int .u64 6148914691236517205))),b0 8 .add 5 7,I 0 8] [0]
abbrev aqb:=J [I 9 0,a0 10 (.bin .shr .none (ab 9) (.const (.int .u64 2))),a0 11 (.bin .and .none (ab 10) (.const (.int .u64 3689348814741910323))),I 12 0,a0 13 (.bin .and .none (ab 12) (.const (.int .u64 3689348814741910323))),b0 14 .add 11 13,I 0 14] [0]
abbrev aqc:=J [I 15 0,a0 16 (.bin .shr .none (ab 15) (.const (.int .u64 4))),I 17 0,b0 18 .add 16 17,a0 19 (.bin .and .none (ab 18) (.const (.int .u64 1085102592571150095))),I 0 19] [0]
abbrev aqd:=J [I 20 0,I 21 0,a0 22 (.bin .shr .none (ab 21) (.const (.int .u64 8))),b0 23 .add 20 22,I 0 23] [0]
abbrev ap8:=J [I 24 0,I 25 0,a0 26 (.bin .shr .none (ab 25) (.const (.int .u64 16))),b0 27 .add 24 26,I 0 27] [0]
abbrev ap9:=J [I 28 0,I 29 0,a0 30 (.bin .shr .none (ab 29) (.const (.int .u64 32))),b0 31 .add 28 30,I 0 31] [0]
abbrev ap_:=J [I 32 0,a0 33 (.conv .i64 (ab 32)),be 34 .and 33 127,I 2 34] [2]
def Ci:bs:=⟨35,[(.tmp 2)],al ap7 (iL aqa aqb aqc aqd ap8 ap9 ap_ aR)⟩
theorem Td:bB au (bE au IN Ci []) IN=some Ci:=by kernel_rfl
end Go.aL.C
namespace Go.aL.C
open Go.aL
abbrev ayb:=J [cu 2 9 0,cu 3 10 1,cl 4 cU] [2,3]
abbrev ayl:=J [cW 24 JI [],aN 4 24] [4]
abbrev ays:=al (J [aY 16 9 2,aY 17 10 3,cW 18 JJ [ab 16,ab 17],cM 19 18,aN 20 19,ax 20 (ai 21 3 3),ax 20 (eJ 22 21),cC 23 20 22] [2,3,23]) (aH 23 (al ayl aR) aC)
abbrev ayu:a6:=ba 8 (J [aY 26 9 2,aY 27 10 3,bt 28 D3 [ab 26,ab 27],I 25 28,c_ 29 25 0,c_ 30 25 1,I 5 29,I 6 30] [2,5,6])
abbrev ayc:a6:=ba 10 (J [I 31 5,bF 32 31,aQ 33 0] [2,5,6,32,33])
abbrev ayd:a6:=ba 12 (J [b0 34 .lss 33 32] [2,5,6,32,33,34])
abbrev aye:a6:=ba 15 (J [I 35 33,I 7 35] [2,5,6,7,32,33])
abbrev ayf:a6:=ba 17 (J [I 36 5,I 37 7,bi 38 7 36 37,ai 39 0 38,ai 40 0 39,am 41 40,I 8 41] [2,5,6,8,32,33])
abbrev ayg:a6:=ba 19 (J [I 42 8,bF 43 42,aQ 44 0] [2,5,6,8,32,33,43,44])
abbrev ayh:a6:=ba 21 (J [b0 45 .lss 44 43] [2,5,6,8,32,33,43,44,45])
abbrev ayi:a6:=ba 24 (J [I 46 44,I 9 46] [2,5,6,8,9,32,33,43,44])
abbrev ayj:a6:=ba 26 (J [I 47 8,I 48 9,bi 49 9 47 48,aY 50 9 49,cy 10 [b3,ae,ae,ae,ae,ae,ae,ae,b3],br 9 10 50] [2,5,6,8,9,10,32,33,43,44])
abbrev ayk:a6:=ba 28 (al (J [ai 51 0 10,eJ 52 51,cM 53 52] [2,5,6,8,9,10,32,33,43,44,53]) (aH 53 (bS 3) aC))
abbrev aym:a6:=ba 30 (J [aY 55 9 2,ai 56 4 10,am 57 56,ai 58 6 10,am 59 58,ai 60 6 10,am 61 60,be 62 .add 61 1,bt 63 Ie [ab 55,ab 57,ab 59,ab 62],I 54 63,c_ 64 54 0,c_ 65 54 1,I 11 64,I 12 65] [2,5,6,8,9,10,11,12,32,33,43,44])
abbrev ayn:a6:=ba 32 (J [aY 67 9 2,ai 68 5 10,am 69 68,ai 70 7 10,am 71 70,ai 72 7 10,am 73 72,be 74 .add 73 1,bt 75 Ic [ab 67,ab 69,ab 71,ab 74],I 66 75,c_ 76 66 0,c_ 77 66 1,I 13 76,I 14 77] [2,5,6,8,9,10,11,12,13,14,32,33,43,44])
abbrev ayo:a6:=ba 34 (J [I 78 9,be 79 .add 78 1,I 80 8,bF 81 80,bv 82 .eql 79 81,aN 83 82,ax 83 (I 84 8),ax 83 (I 85 9),ax 83 (be 86 .add 85 1),ax 83 (bi 87 9 84 86),ax 83 (ai 88 8 87),ax 83 (eJ 89 88),ax 83 (cM 90 89),cC 91 83 90,aN 15 91] [2,5,6,8,10,11,12,13,14,15,32,33,43,44])
abbrev ayp:=J [cl 4 cU] [4]
abbrev Re:a6:=ba 39 (al (J [I 92 12,bD 93 .neq 92 0,aN 94 93,ax 94 (I 95 14),ax 94 (bD 96 .neq 95 0),cC 97 94 96,aN 98 97,ax 98 (ai 99 8 10),ax 98 (eJ 100 99),ax 98 (cM 101 100),ax 98 (aN 102 101),av 102 (I 103 11),av 102 (ai 104 1 10),av 102 (am 105 104),av 102 (ai 106 2 10),av 102 (am 107 106),av 102 (cW 108 Ea [ab 103,ab 105,ab 107]),av 102 (cM 109 108),ax 98 (cG 110 102 109),cC 111 98 110,aN 112 111,ax 112 (aN 113 15),ax 112 (aN 114 113),av 114 (I 115 13),av 114 (ai 116 1 10),av 114 (am 117 116),av 114 (ai 118 3 10),av 114 (am 119 118),av 114 (cW 120 Ea [ab 115,ab 117,ab 119]),av 114 (cM 121 120),ax 112 (cG 122 114 121),cC 123 112 122] [2,5,6,8,32,33,43,44,123]) (aH 123 (al ayp aR) aC))
abbrev ayq:a6:=ba 48 (J [be 124 .add 44 1,I 44 124] [2,5,6,8,32,33,43,44])
abbrev ayr:a6:=ba 59 (J [be 125 .add 33 1,I 33 125] [2,5,6,32,33])
abbrev ayt:a6:=ba 67 (J [I 126 6,bD 127 .eql 126 0,aN 128 127,av 128 (cW 129 JI []),cG 130 128 129,aN 4 130] [4])
def Hp:bs:=⟨131,[(.tmp 4)],hM ayb ays ayu (al ayc (bb 0 (cg [2,5,6,32,33] (cv ayd (aH 34 aC (bS 0)) (bb 1 (cv aye ayf ayg (bb 2 (cg [2,5,6,8,32,33,43,44] (cv ayh (aH 45 aC (bS 2)) (bb 3 (uh ayi ayj ayk aym ayn ayo Re)) ayq))))) ayr)))) ayt aR⟩
theorem aGK:bB au (bE au JH Hp []) JH=some Hp:=by kernel_rfl
abbrev ass:=J [cu 4 9 0,cu 6 1 2,cu 7 1 3,d9 8 fu,aQ 9 0] [1,4,6,7]
abbrev asu:=J [aY 11 9 4,I 12 1,a0 13 (.buildSlice [ae] 1 1 [(0,(1,(ab 12)))]),bt 14 DK [ab 11,ab 13],I 10 14] [1,4,6,7,10]
abbrev asv:=J [I 17 10,d9 8 fu,I 9 17] [8,9]
abbrev asw:=al (J [I 15 10,bD 16 .neq 15 0] [1,4,6,7,10,16]) (aH 16 (al asv aR) aC)
abbrev ast:a6:=ba 11 (J [aY 18 9 4,I 19 1,a0 20 (.lO DJ [ab 6,ab 7]),bt 21 DL [ab 18,ab 19,ab 20],I 8 21,aQ 9 0] [8,9])
def F0:bs:=⟨22,[(.tmp 8),(.tmp 9)],cv ass (al asu asw) ast aR⟩
theorem aFg:bB au (bE au Ie F0 []) Ie=some F0:=by kernel_rfl
abbrev atl:=J [cu 4 9 0,cu 6 1 2,cu 7 1 3,d9 8 fu,aQ 9 0] [1,4,6,7]
abbrev atn:=J [aY 11 9 4,I 12 1,a0 13 (.buildSlice [ae] 1 1 [(0,(1,(ab 12)))]),bt 14 DK [ab 11,ab 13],I 10 14] [1,4,6,7,10]
abbrev ato:=J [I 17 10,d9 8 fu,I 9 17] [8,9]
abbrev atp:=al (J [I 15 10,bD 16 .neq 15 0] [1,4,6,7,10,16]) (aH 16 (al ato aR) aC)
abbrev atm:a6:=ba 11 (J [aY 18 9 4,I 19 1,a0 20 (.lO DI [ab 6,ab 7]),bt 21 DL [ab 18,ab 19,ab 20],I 8 21,aQ 9 0] [8,9])
def FY:bs:=⟨22,[(.tmp 8),(.tmp 9)],cv atl (al atn atp) atm aR⟩
theorem aFe:bB au (bE au Ic FY []) Ic=some FY:=by kernel_rfl
abbrev at1:=J [cl 6 cU] [0,1,2]
abbrev at6:=J [I 8 0,bF 9 8,aQ 10 0] [0,1,2,9,10]
abbrev at7:=J [b0 11 .lss 10 9] [0,1,2,9,10,11]
abbrev at8:=J [I 12 10,I 7 12] [0,1,2,7,9,10]
abbrev at2:=J [cl 6 fU] [6]
abbrev at3:=al (J [I 13 0,I 14 7,bi 15 3 13 14,ai 16 0 15,am 17 16,I 18 1,bv 19 .eql 17 18,aN 20 19,av 20 (I 21 0),av 20 (I 22 7),av 20 (bi 23 3 21 22),av 20 (ai 24 1 23),av 20 (am 25 24),av 20 (I 26 2),av 20 (bv 27 .eql 25 26),cG 28 20 27] [0,1,2,9,10,28]) (aH 28 (al at2 aR) aC)
abbrev at4:=J [be 29 .add 10 1,I 10 29] [0,1,2,9,10]
abbrev at5:=J [cl 6 cU] [6]
def Hr:bs:=⟨30,[(.tmp 6)],cv at1 (al at6 (bb 0 (cg [0,1,2,9,10] (cv at7 (aH 11 aC (bS 0)) (bb 1 (al at8 at3)) at4)))) at5 aR⟩
theorem aGM:bB au (bE au Ea Hr []) Ea=some Hr:=by kernel_rfl
abbrev awT:=J [cu 2 9 0,aQ 4 0] [1,2]
abbrev aw0:=J [aY 11 9 2,bt 12 z_ [ab 11],I 10 12,c_ 13 10 0,c_ 14 10 1,c_ 15 10 2,I 5 13,I 6 14,I 7 15] [1,2,7]
abbrev aw2:=J [aQ 4 21] [4]
abbrev aw3:=al (J [I 16 7,bD 17 .neq 16 0] [1,2,17]) (aH 17 (al aw2 aR) aC)
abbrev awU:=J [I 18 1,bF 19 18,aQ 20 0] [2,18,19,20]
abbrev awV:a6:=ba 13 (J [b0 21 .lss 20 19] [2,18,19,20,21])
abbrev awW:a6:=ba 16 (J [bi 22 1 18 20,am 23 22,I 9 23] [2,9,18,19,20])
abbrev awX:=J [aQ 4 13] [4]
abbrev awY:a6:=ba 21 (al (J [I 24 9,bD 25 .lss 24 0,aN 26 25,ax 26 (I 27 9),ax 26 (ai 28 0 2),ax 26 (am 29 28),ax 26 (bF 30 29),ax 26 (bv 31 .geq 27 30),cC 32 26 31] [2,18,19,20,32]) (aH 32 (al awX aR) aC))
abbrev awZ:a6:=ba 25 (J [be 33 .add 20 1,I 20 33] [2,18,19,20])
abbrev aw1:a6:=ba 33 (J [aQ 4 0] [4])
def F2:bs:=⟨34,[(.tmp 4)],f3 awT (al aw0 aw3) (al awU (bb 0 (cg [2,18,19,20] (cv awV (aH 21 aC (bS 0)) (bb 1 (al awW awY)) awZ)))) aw1 aR⟩
theorem aFh:bB au (bE au DK F2 []) DK=some F2:=by kernel_rfl
abbrev aw4:=J [cu 3 9 0,d9 6 fu] [1,2,3]
abbrev axh:a6:=ba 3 (J [d9 7 fu] [1,2,3,7])
abbrev axk:=J [ai 14 2 3,am 15 14,bF 16 15,aQ 17 0] [1,2,7,15,16,17]
abbrev axr:a6:=ba 7 (J [b0 18 .lss 17 16] [1,2,7,15,16,17,18])
abbrev aw5:a6:=ba 10 (J [I 19 17,bi 20 8 15 17,aY 21 8 20,cy 9 [ae,ae,ae,.str [],ae,b3,b3,c1],I 8 19,br 8 9 21] [1,2,7,8,9,15,16,17])
abbrev aw9:a6:=ba 12 (al (J [ai 22 6 9,eJ 23 22] [1,2,7,8,9,15,16,17,23]) (aH 23 (bS 1) aC))
abbrev aw_:a6:=ba 14 (J [ai 24 7 9,am 25 24,bF 26 25,aQ 27 0] [1,2,7,8,9,15,16,17,25,26,27])
abbrev axa:a6:=ba 16 (J [b0 28 .lss 27 26] [1,2,7,8,9,15,16,17,25,26,27,28])
abbrev axb:a6:=ba 19 (J [I 29 27,bi 30 5 25 27,aY 31 5 30,cy 11 [ae,ae,ae,b3,b3],I 10 29,br 5 11 31] [1,2,7,8,9,10,11,15,16,17,25,26,27])
abbrev axc:a6:=ba 21 (al (J [ai 32 0 11,am 33 32,I 34 1,bv 35 .neq 33 34] [1,2,7,8,9,10,15,16,17,25,26,27,35]) (aH 35 (bS 3) aC))
abbrev axd:a6:=ba 23 (J [I 37 2,ai 38 7 9,am 39 38,I 40 10,a0 41 (.fX (ab 37) [ab 39,ab 40]),I 36 41,c_ 42 36 0,pJ 43 36 1,I 12 42,aN 13 43] [1,2,7,8,9,10,12,13,15,16,17,25,26,27])
abbrev axe:a6:=ba 25 (J [I 45 7,I 46 8,I 47 10,I 48 12,a0 49 (.build [ae,ae,ae] [(0,(1,(ab 46))),(1,(1,(ab 47))),(2,(1,(ab 48)))]),a0 50 (.buildSlice [ae,ae,ae] 3 1 [(0,(3,(ab 49)))]),hR 51 3 24 45 50,I 7 51] [1,2,7,8,9,15,16,17,25,26,27])
abbrev axf:a6:=ba 27 (al (J [aN 44 13] [1,2,7,8,9,10,12,15,16,17,25,26,27,44]) (aH 44 axe aC))
abbrev axg:=al axd axf
abbrev axi:a6:=ba 33 (J [be 52 .add 27 1,I 27 52] [1,2,7,8,9,15,16,17,25,26,27])
abbrev axj:a6:=ba 44 (J [be 53 .add 17 1,I 17 53] [1,2,7,15,16,17])
abbrev axl:a6:=ba 52 (J [I 54 7,bt 55 D6 [ab 54,.const (.dF z3 [])]] [7])
abbrev axm:a6:=ba 54 (J [I 56 7,I 6 56] [6])
abbrev Rd:a6:=ba 59 (hM axh .label (al axk (bb 0 (cg [1,2,7,15,16,17] (cv axr (aH 18 aC (bS 0)) (bb 1 (cv aw5 aw9 aw_ (bb 2 (cg [1,2,7,8,9,15,16,17,25,26,27] (cv axa (aH 28 aC (bS 2)) (bb 3 (cb axb axc axg)) axi))))) axj)))) axl axm aR)
abbrev axn:=J [ai 14 2 3,am 15 14,bF 16 15,aQ 17 0] [1,2,7,15,16,17]
abbrev axo:=J [b0 18 .lss 17 16] [1,2,7,15,16,17,18]
abbrev axp:=J [I 19 17,bi 20 8 15 17,aY 21 8 20,cy 9 [ae,ae,ae,.str [],ae,b3,b3,c1],I 8 19,br 8 9 21] [1,2,7,8,9,15,16,17]
abbrev axq:=al (J [ai 22 6 9,eJ 23 22] [1,2,7,8,9,15,16,17,23]) (aH 23 (bS 1) aC)
abbrev axs:=J [ai 24 7 9,am 25 24,bF 26 25,aQ 27 0] [1,2,7,8,9,15,16,17,25,26,27]
abbrev axt:=J [b0 28 .lss 27 26] [1,2,7,8,9,15,16,17,25,26,27,28]
abbrev axu:=J [I 29 27,bi 30 5 25 27,aY 31 5 30,cy 11 [ae,ae,ae,b3,b3],I 10 29,br 5 11 31] [1,2,7,8,9,10,11,15,16,17,25,26,27]
abbrev axv:=al (J [ai 32 0 11,am 33 32,I 34 1,bv 35 .neq 33 34] [1,2,7,8,9,10,15,16,17,25,26,27,35]) (aH 35 (bS 3) aC)
abbrev axw:=J [I 37 2,ai 38 7 9,am 39 38,I 40 10,a0 41 (.fX (ab 37) [ab 39,ab 40]),I 36 41,c_ 42 36 0,pJ 43 36 1,I 12 42,aN 13 43] [1,2,7,8,9,10,12,13,15,16,17,25,26,27]
abbrev axx:=J [I 45 7,I 46 8,I 47 10,I 48 12,a0 49 (.build [ae,ae,ae] [(0,(1,(ab 46))),(1,(1,(ab 47))),(2,(1,(ab 48)))]),a0 50 (.buildSlice [ae,ae,ae] 3 1 [(0,(3,(ab 49)))]),hR 51 3 24 45 50,I 7 51] [1,2,7,8,9,15,16,17,25,26,27]
abbrev axy:=al (J [aN 44 13] [1,2,7,8,9,10,12,15,16,17,25,26,27,44]) (aH 44 axx aC)
abbrev axz:=J [be 52 .add 27 1,I 27 52] [1,2,7,8,9,15,16,17,25,26,27]
abbrev aw6:=J [be 53 .add 17 1,I 17 53] [1,2,7,15,16,17]
abbrev aw7:=J [I 54 7,bt 55 D6 [ab 54,.const (.dF z3 [])]] [7]
abbrev aw8:=J [I 56 7,I 6 56] [6]
abbrev Rb:=f3 aC (al axn (bb 0 (cg [1,2,7,15,16,17] (cv axo (aH 18 aC (bS 0)) (bb 1 (cv axp axq axs (bb 2 (cg [1,2,7,8,9,15,16,17,25,26,27] (cv axt (aH 28 aC (bS 2)) (bb 3 (cv axu axv axw axy)) axz))))) aw6)))) aw7 aw8 aR
abbrev Rc:a6:=ba 115 (.scope 0 [1,2,3,7] Rd Rb)
def F3:bs:=⟨57,[(.tmp 6)],al aw4 Rc⟩
theorem aFj:bB au (bE au DL F3 []) DL=some F3:=by kernel_rfl
abbrev axA:=J [aQ 6 0,cl 7 cU] [0,1,2,3]
abbrev axB:=J [I 9 0,I 10 1,bi 11 5 9 10,aY 12 5 11,cy 8 [ae,ae,ae,b3,b3],br 5 8 12] [0,1,2,3,8]
abbrev axC:=di [ai 13 2 8,am 14 13,ai 15 3 8,eJ 16 15,aN 17 16,av 17 (I 18 1),av 17 (be 19 .add 18 1),av 17 (I 20 0),av 17 (bF 21 20),av 17 (bv 22 .lss 19 21),cG 23 17 22,aN 24 23,av 24 (am 25 2),av 24 (ai 26 2 8),av 24 (am 27 26),av 24 (bv 28 .leq 25 27),cG 29 24 28,aN 30 29,av 30 (ai 31 2 8),av 30 (am 32 31),av 30 (am 33 3),av 30 (bv 34 .lss 32 33),cG 35 30 34,I 6 14,aN 7 35] [U,U,U,U,U,U,U,U,U,U,U,U,U,U,U,U,U,U,U,U,U,U,U,U,U] [6,7]
def F1:bs:=⟨36,[(.tmp 6),(.tmp 7)],cv axA axB axC aR⟩
theorem aFf:bB au (bE au DJ F1 []) DJ=some F1:=by kernel_rfl
abbrev axD:=J [aQ 6 0,cl 7 cU] [0,1,2,3]
abbrev axE:=J [I 9 0,I 10 1,bi 11 5 9 10,aY 12 5 11,cy 8 [ae,ae,ae,b3,b3],br 5 8 12] [1,2,3,8]
abbrev axF:=di [ai 13 1 8,am 14 13,ai 15 4 8,eJ 16 15,aN 17 16,av 17 (I 18 1),av 17 (bD 19 .gtr 18 0),cG 20 17 19,aN 21 20,av 21 (am 22 2),av 21 (ai 23 1 8),av 21 (am 24 23),av 21 (bv 25 .leq 22 24),cG 26 21 25,aN 27 26,av 27 (ai 28 1 8),av 27 (am 29 28),av 27 (am 30 3),av 27 (bv 31 .lss 29 30),cG 32 27 31,I 6 14,aN 7 32] [U,U,U,U,U,U,U,U,U,U,U,U,U,U,U,U,U,U,U,U,U,U] [6,7]
def FZ:bs:=⟨33,[(.tmp 6),(.tmp 7)],cv axD axE axF aR⟩
theorem aFd:bB au (bE au DI FZ []) DI=some FZ:=by kernel_rfl
abbrev aCD:=J [I 5 0,bF 6 5,I 4 6] [0,1,4]
abbrev aCE:=J [I 7 0,I 8 4,I 9 4,a0 10 (.conv .u64 (ab 9)),bt 11 DZ [ab 10],I 12 1,bt 13 Al [ab 7,bX 0,ab 8,ab 11,ab 12]] []
def GR:bs:=⟨14,[],al aCD aCE⟩
theorem aGc:bB au (bE au D6 GR []) D6=some GR:=by kernel_rfl
abbrev aCF:=J [cu 2 3 0,cu 3 3 1,aQ 4 0] [2,3]
abbrev aCG:=di [ai 5 2 2,am 6 5,ai 7 2 3,am 8 7,bt 9 ua [ab 6,ab 8],ai 10 0 2,am 11 10,ai 12 0 3,am 13 12,bt 14 ua [ab 11,ab 13],ai 15 1 2,am 16 15,ai 17 1 3,am 18 17,bt 19 ua [ab 16,ab 18],a0 20 (.buildSlice [ae,ae,ae] 1 3 [(0,(1,(ab 9))),(1,(1,(ab 14))),(2,(1,(ab 19)))]),bt 21 DM [ab 20],I 4 21] [U,U,U,U,U,U,U,U,U,U,U,U,U,U,ff,U,ff,U] [4]
def F4:bs:=⟨22,[(.tmp 4)],cb aCF aCG aR⟩
theorem aFi:bB au (bE au z3 F4 []) z3=some F4:=by kernel_rfl
abbrev ahJ:=J [cl 10 fU] [0,1,2,3,4,10]
abbrev ahT:=J [cl 11 fU] [0,1,2,3,4,10,11]
abbrev ah2:=J [I 21 2,I 22 1,b0 23 .sub 21 22,I 12 23] [0,1,2,3,4,10,11,12]
abbrev aib:=J [I 26 0,I 27 1,I 28 2,I 29 4,bt 30 Jq [ab 26,ab 27,ab 28,ab 29]] []
abbrev ahK:=al (J [I 24 12,bD 25 .leq 24 12] [0,1,2,3,4,10,11,12,25]) (aH 25 (al aib aR) aC)
abbrev ahL:=J [I 33 0,I 34 1,I 35 2,I 36 4,bt 37 aKK [ab 33,ab 34,ab 35,ab 36]] []
abbrev ahM:=al (J [I 31 3,bD 32 .eql 31 0] [0,1,2,3,4,10,11,12,32]) (aH 32 (al ahL aR) aC)
abbrev ahN:=J [I 40 0,I 41 1,I 42 2,I 43 4,bt 44 aKI [ab 40,ab 41,ab 42,ab 43]] [0,1,2,3,4,10,11,12]
abbrev ahO:=J [I 45 3,be 46 .sub 45 1,I 3 46] [0,1,2,3,4,10,11,12]
abbrev ahP:=al (J [aN 38 10,cM 39 38] [0,1,2,3,4,10,11,12,39]) (aH 39 (al ahN ahO) aC)
abbrev ahQ:=J [I 48 0,I 49 1,I 50 2,I 51 4,bt 52 Jo [ab 48,ab 49,ab 50,ab 51],I 47 52,c_ 53 47 0,c_ 54 47 1,I 13 53,I 14 54] [0,1,2,3,4,10,11,12,13,14]
abbrev ahR:=J [I 57 0,I 58 1,I 59 2,I 60 4,bt 61 aKQ [ab 57,ab 58,ab 59,ab 60]] [0,1,2,3,4,10,11,12,13]
abbrev ahS:=J [I 62 2,be 63 .sub 62 1,I 64 13,I 65 1,b0 66 .sub 64 65,b0 67 .sub 63 66,I 13 67] [0,1,2,3,4,10,11,12,13]
abbrev ahU:=J [aQ 14 1] [0,1,2,3,4,10,11,12,13,14]
abbrev ahV:=al (J [I 55 14,bD 56 .eql 55 2] [0,1,2,3,4,10,11,12,13,14,56]) (aH 56 (cb ahR ahS ahU) aC)
abbrev ahW:=al (J [I 76 0,I 77 1,I 78 2,I 79 4,cW 80 Js [ab 76,ab 77,ab 78,ab 79]] [0,1,2,3,4,10,11,12,13,80]) (aH 80 aR aC)
abbrev ahX:=al (J [aN 68 10,aN 69 68,av 69 (aN 70 11),cG 71 69 70,aN 72 71,av 72 (I 73 14),av 72 (bD 74 .eql 73 1),cG 75 72 74] [0,1,2,3,4,10,11,12,13,75]) (aH 75 ahW aC)
abbrev ahY:=J [I 98 0,I 99 1,I 100 2,I 101 13,I 102 4,bt 103 aKO [ab 98,ab 99,ab 100,ab 101,ab 102],I 15 103] [0,2,3,4,10,11,15]
abbrev ahZ:=J [I 104 15,I 1 104] [0,1,2,3,4,10,11]
abbrev ah0:=al (di [I 81 1,bD 82 .gtr 81 0,aN 83 82,av 83 (I 84 4),av 83 (I 85 0),av 83 (I 86 1),av 83 (be 87 .sub 86 1),av 83 (bi 88 3 85 87),av 83 (aY 89 3 88),av 83 (I 90 0),av 83 (I 91 13),av 83 (bi 92 3 90 91),av 83 (aY 93 3 92),av 83 (a0 94 (.fX (ab 84) [ab 89,ab 93])),av 83 (bD 95 .lss 94 0),av 83 (cM 96 95),cG 97 83 96] [U,U,U,U,U,U,U,U,U,U,U,U,U,ff,U,U,U] [0,1,2,3,4,10,11,12,13,97]) (aH 97 (cb ahY ahZ (bS 1)) aC)
abbrev ah1:=J [I 106 0,I 107 1,I 108 2,I 109 13,I 110 4,bt 111 aKM [ab 106,ab 107,ab 108,ab 109,ab 110],I 105 111,c_ 112 105 0,pJ 113 105 1,I 16 112,aN 17 113] [0,1,2,3,4,12,16,17]
abbrev ah3:=J [aN 114 17,aN 11 114] [0,1,2,3,4,11,12,16]
abbrev ah4:=J [I 115 16,I 116 1,b0 117 .sub 115 116,I 118 2,I 119 16,b0 120 .sub 118 119,I 18 117,I 19 120] [0,1,2,3,4,11,12,16,18,19]
abbrev ah5:=J [I 121 12,be 122 .quo 121 8,I 20 122] [0,1,2,3,4,11,16,18,19,20]
abbrev ah6:=J [I 126 18,I 127 20,bv 128 .geq 126 127,aN 10 128] [0,1,2,3,4,10,11,16]
abbrev ah7:=J [I 129 0,I 130 1,I 131 16,I 132 3,I 133 4,bt 134 Al [ab 129,ab 130,ab 131,ab 132,ab 133]] [0,2,3,4,10,11,16]
abbrev ah8:=J [I 135 16,be 136 .add 135 1,I 1 136] [0,1,2,3,4,10,11]
abbrev ah9:=J [I 137 19,I 138 20,bv 139 .geq 137 138,aN 10 139] [0,1,2,3,4,10,11,16]
abbrev ah_:=J [I 140 0,I 141 16,be 142 .add 141 1,I 143 2,I 144 3,I 145 4,bt 146 Al [ab 140,ab 142,ab 143,ab 144,ab 145]] [0,1,3,4,10,11,16]
abbrev aia:=J [I 147 16,I 2 147] [0,1,2,3,4,10,11]
abbrev aic:=al (J [I 123 18,I 124 19,bv 125 .lss 123 124] [0,1,2,3,4,11,16,18,19,20,125]) (aH 125 (cb ah6 ah7 ah8) (cb ah9 ah_ aia))
def G6:bs:=⟨148,[],cb ahJ ahT (bb 0 (cg [0,1,2,3,4,10,11] (bb 1 (hM ah2 ahK ahM ahP ahQ (iL ahV ahX ah0 ah1 ah3 ah4 ah5 aic)))))⟩
theorem aGq:bB au (bE au Al G6 []) Al=some G6:=by kernel_rfl
abbrev al6:=J [I 10 1,be 11 .add 10 1,I 8 11] [0,1,2,3,8]
abbrev al9:=al (J [I 12 8,I 13 2,bv 14 .lss 12 13] [0,1,2,3,8,14]) (aH 14 aC (bS 0))
abbrev al_:=J [I 17 8,I 9 17] [0,1,2,3,8,9]
abbrev ama:=al (di [I 18 9,I 19 1,bv 20 .gtr 18 19,aN 21 20,av 21 (I 22 3),av 21 (I 23 0),av 21 (I 24 9),av 21 (bi 25 3 23 24),av 21 (aY 26 3 25),av 21 (I 27 0),av 21 (I 28 9),av 21 (be 29 .sub 28 1),av 21 (bi 30 3 27 29),av 21 (aY 31 3 30),av 21 (a0 32 (.fX (ab 22) [ab 26,ab 31])),av 21 (bD 33 .lss 32 0),cG 34 21 33] [U,U,U,U,U,U,U,U,U,U,U,U,U,U,ff,U,U] [0,1,2,3,8,9,34]) (aH 34 aC (bS 2))
abbrev amb:a6:=.float [I 37 0,I 38 9,I 39 0,I 40 9,be 41 .sub 40 1,I 42 0,I 43 9,be 44 .sub 43 1,bi 45 3 42 44,aY 46 3 45,I 47 0,I 48 9,bi 49 3 47 48,aY 50 3 49,bi 51 3 37 38,br 3 51 46,bi 52 3 39 41,br 3 52 50] [none,none,none,none,none,none,none,none,none,none,none,none,none,none,none,(some [2,3,4]),none,(some [])] [0,1,2,3,8,9]
abbrev al7:=J [I 35 9,be 36 .sub 35 1,I 9 36] [0,1,2,3,8,9]
abbrev al8:=J [I 15 8,be 16 .add 15 1,I 8 16] [0,1,2,3,8]
def GW:bs:=⟨53,[],al al6 (bb 0 (cg [0,1,2,3,8] (cb al9 (bb 1 (al al_ (bb 2 (cg [0,1,2,3,8,9] (cb ama (bb 3 amb) al7))))) al8)))⟩
theorem aGg:bB au (bE au Jq GW []) Jq=some GW:=by kernel_rfl
abbrev amp:=J [aQ 8 0,aQ 9 0] [0,1,2,3]
abbrev amy:=J [I 15 2,I 16 1,b0 17 .sub 15 16,I 10 17] [0,1,3,10]
abbrev amE:=J [cy 11 [ae]] [0,1,3,10,11]
abbrev amF:=J [I 18 1,I 19 10,be 20 .quo 19 4,be 21 .mul 20 1,b0 22 .add 18 21,I 12 22] [0,1,3,10,11,12]
abbrev amG:=J [I 23 1,I 24 10,be 25 .quo 24 4,be 26 .mul 25 2,b0 27 .add 23 26,I 13 27] [0,1,3,10,11,12,13]
abbrev amq:=J [I 28 1,I 29 10,be 30 .quo 29 4,be 31 .mul 30 3,b0 32 .add 28 31,I 14 32] [0,3,10,11,12,13,14]
abbrev amr:=J [I 37 0,I 38 12,I 39 3,bt 40 Ah [ab 37,ab 38,ab 11,ab 39],I 12 40] [0,3,11,12,13,14]
abbrev ams:=J [I 41 0,I 42 13,I 43 3,bt 44 Ah [ab 41,ab 42,ab 11,ab 43],I 13 44] [0,3,11,12,13,14]
abbrev amt:=J [I 45 0,I 46 14,I 47 3,bt 48 Ah [ab 45,ab 46,ab 11,ab 47],I 14 48] [0,3,11,12,13,14]
abbrev amu:=al (J [I 35 10,bD 36 .geq 35 50] [0,3,11,12,13,14,36]) (aH 36 (cb amr ams amt) aC)
abbrev amv:=J [I 49 0,I 50 12,I 51 13,I 52 14,I 53 3,bt 54 D8 [ab 49,ab 50,ab 51,ab 52,ab 11,ab 53],I 13 54] [11,13]
abbrev amw:=al (J [I 33 10,bD 34 .geq 33 8] [0,3,10,11,12,13,14,34]) (aH 34 (al amu amv) aC)
abbrev amx:=J [am 55 11] [13,55]
abbrev amz:=J [I 59 13,I 8 59,aQ 9 1] [8,9]
abbrev amA:=J [I 62 13,I 8 62,aQ 9 2] [8,9]
abbrev amB:=J [I 56 13,I 8 56,aQ 9 0] [8,9]
abbrev amC:=al (J [bD 61 .eql 55 12,aN 60 61] [13,60]) (aH 60 (al amA aR) (al amB aR))
abbrev amD:=al (J [bD 58 .eql 55 0,aN 57 58] [13,55,57]) (aH 57 (al amz aR) amC)
def GU:bs:=⟨63,[(.tmp 8),(.tmp 9)],al amp (iL amy amE amF amG amq amw amx (bb 0 amD))⟩
theorem aGe:bB au (bE au Jo GU []) Jo=some GU:=by kernel_rfl
abbrev amH:=J [cl 8 cU] [0,1,2,3]
abbrev amP:=J [I 13 1,be 14 .add 13 1,I 9 14] [0,1,2,3,9]
abbrev amW:=J [aQ 10 0] [0,1,2,3,9,10]
abbrev am2:=al (J [I 15 10,bD 16 .lss 15 5] [0,1,2,3,9,10,16]) (aH 16 aC (bS 0))
abbrev am5:=al (di [I 19 9,I 20 2,bv 21 .lss 19 20,aN 22 21,av 22 (I 23 3),av 22 (I 24 0),av 22 (I 25 9),av 22 (bi 26 3 24 25),av 22 (aY 27 3 26),av 22 (I 28 0),av 22 (I 29 9),av 22 (be 30 .sub 29 1),av 22 (bi 31 3 28 30),av 22 (aY 32 3 31),av 22 (a0 33 (.fX (ab 23) [ab 27,ab 32])),av 22 (bD 34 .lss 33 0),av 22 (cM 35 34),cG 36 22 35] [U,U,U,U,U,U,U,U,U,U,U,U,U,U,ff,U,U,U] [0,1,2,3,9,10,36]) (aH 36 aC (bS 2))
abbrev amI:=J [I 37 9,be 38 .add 37 1,I 9 38] [0,1,2,3,9,10]
abbrev amJ:=J [cl 8 fU] [8]
abbrev amK:=al (J [I 39 9,I 40 2,bv 41 .eql 39 40] [0,1,2,3,9,10,41]) (aH 41 (al amJ aR) aC)
abbrev amL:=J [cl 8 cU] [8]
abbrev amM:=al (J [I 42 2,I 43 1,b0 44 .sub 42 43,bD 45 .lss 44 50] [0,1,2,3,9,10,45]) (aH 45 (al amL aR) aC)
abbrev amN:a6:=.float [I 46 0,I 47 9,I 48 0,I 49 9,be 50 .sub 49 1,I 51 0,I 52 9,be 53 .sub 52 1,bi 54 3 51 53,aY 55 3 54,I 56 0,I 57 9,bi 58 3 56 57,aY 59 3 58,bi 60 3 46 47,br 3 60 55,bi 61 3 48 50,br 3 61 59] [none,none,none,none,none,none,none,none,none,none,none,none,none,none,none,(some [2,3,4]),none,(some [])] [0,1,2,3,9,10]
abbrev amO:=J [I 66 9,be 67 .sub 66 1,I 11 67] [0,1,2,3,9,10,11]
abbrev amQ:=al (J [I 68 11,bD 69 .geq 68 1] [0,1,2,3,9,10,11,69]) (aH 69 aC (bS 4))
abbrev amR:=al (di [I 72 3,I 73 0,I 74 11,bi 75 3 73 74,aY 76 3 75,I 77 0,I 78 11,be 79 .sub 78 1,bi 80 3 77 79,aY 81 3 80,a0 82 (.fX (ab 72) [ab 76,ab 81]),bD 83 .lss 82 0,cM 84 83] [U,U,U,U,U,U,U,U,U,U,ff,U,U] [0,1,2,3,9,10,11,84]) (aH 84 (bS 4) aC)
abbrev amS:a6:=.float [I 85 0,I 86 11,I 87 0,I 88 11,be 89 .sub 88 1,I 90 0,I 91 11,be 92 .sub 91 1,bi 93 3 90 92,aY 94 3 93,I 95 0,I 96 11,bi 97 3 95 96,aY 98 3 97,bi 99 3 85 86,br 3 99 94,bi 100 3 87 89,br 3 100 98] [none,none,none,none,none,none,none,none,none,none,none,none,none,none,none,(some [2,3,4]),none,(some [])] [0,1,2,3,9,10,11]
abbrev amT:=J [I 70 11,be 71 .sub 70 1,I 11 71] [0,1,2,3,9,10,11]
abbrev amU:=al (J [I 62 9,I 63 1,b0 64 .sub 62 63,bD 65 .geq 64 2] [0,1,2,3,9,10,65]) (aH 65 (al amO (bb 4 (cg [0,1,2,3,9,10,11] (cb amQ (bb 5 (al amR amS)) amT)))) aC)
abbrev amV:=J [I 105 9,be 106 .add 105 1,I 12 106] [0,1,2,3,9,10,12]
abbrev amX:=al (J [I 107 12,I 108 2,bv 109 .lss 107 108] [0,1,2,3,9,10,12,109]) (aH 109 aC (bS 6))
abbrev amY:=al (di [I 112 3,I 113 0,I 114 12,bi 115 3 113 114,aY 116 3 115,I 117 0,I 118 12,be 119 .sub 118 1,bi 120 3 117 119,aY 121 3 120,a0 122 (.fX (ab 112) [ab 116,ab 121]),bD 123 .lss 122 0,cM 124 123] [U,U,U,U,U,U,U,U,U,U,ff,U,U] [0,1,2,3,9,10,12,124]) (aH 124 (bS 6) aC)
abbrev amZ:a6:=.float [I 125 0,I 126 12,I 127 0,I 128 12,be 129 .sub 128 1,I 130 0,I 131 12,be 132 .sub 131 1,bi 133 3 130 132,aY 134 3 133,I 135 0,I 136 12,bi 137 3 135 136,aY 138 3 137,bi 139 3 125 126,br 3 139 134,bi 140 3 127 129,br 3 140 138] [none,none,none,none,none,none,none,none,none,none,none,none,none,none,none,(some [2,3,4]),none,(some [])] [0,1,2,3,9,10,12]
abbrev am0:=J [I 110 12,be 111 .add 110 1,I 12 111] [0,1,2,3,9,10,12]
abbrev am1:=al (J [I 101 2,I 102 9,b0 103 .sub 101 102,bD 104 .geq 103 2] [0,1,2,3,9,10,104]) (aH 104 (al amV (bb 6 (cg [0,1,2,3,9,10,12] (cb amX (bb 7 (al amY amZ)) am0)))) aC)
abbrev am3:=J [I 17 10,be 18 .add 17 1,I 10 18] [0,1,2,3,9,10]
abbrev am4:=J [cl 8 cU] [8]
def G4:bs:=⟨141,[(.tmp 8)],f3 amH amP (al amW (bb 0 (cg [0,1,2,3,9,10] (cb am2 (bb 1 (hM (bb 2 (cg [0,1,2,3,9,10] (al am5 (bb 3 amI)))) amK amM amN amU am1)) am3)))) am4 aR⟩
theorem aGo:bB au (bE au Js G4 []) Js=some G4:=by kernel_rfl
abbrev ap0:=J [aQ 8 0] [0,1,2,3]
abbrev ap1:=J [I 9 0,I 10 1,be 11 .sub 10 1,I 12 1,I 13 1,be 14 .add 13 1,I 15 2,I 16 3,bt 17 D8 [ab 9,ab 11,ab 12,ab 14,ab 15,ab 16],I 8 17] [8]
def GY:bs:=⟨18,[(.tmp 8)],cb ap0 ap1 aR⟩
theorem aGi:bB au (bE au Ah GY []) Ah=some GY:=by kernel_rfl
abbrev ap2:=J [aQ 12 0] [0,1,2,3,4,5]
abbrev ap3:=J [I 14 0,I 15 1,I 16 2,I 17 4,I 18 5,bt 19 Aj [ab 14,ab 15,ab 16,ab 17,ab 18],I 13 19,c_ 20 13 0,c_ 21 13 1,I 1 20,I 2 21] [0,1,2,3,4,5]
abbrev ap4:=J [I 23 0,I 24 2,I 25 3,I 26 4,I 27 5,bt 28 Aj [ab 23,ab 24,ab 25,ab 26,ab 27],I 22 28,c_ 29 22 0,c_ 30 22 1,I 2 29,I 3 30] [0,1,2,4,5]
abbrev ap5:=J [I 32 0,I 33 1,I 34 2,I 35 4,I 36 5,bt 37 Aj [ab 32,ab 33,ab 34,ab 35,ab 36],I 31 37,c_ 38 31 0,c_ 39 31 1,I 1 38,I 2 39] [2]
abbrev ap6:=J [I 40 2,I 12 40] [12]
def G0:bs:=⟨41,[(.tmp 12)],hM ap2 ap3 ap4 ap5 ap6 aR⟩
theorem aGk:bB au (bE au D8 G0 []) D8=some G0:=by kernel_rfl
abbrev aq2:=J [aQ 10 0,aQ 11 0] [0,1,2,3,4]
abbrev aq4:=J [I 23 3,b2 24 23,am 25 24,be 26 .add 25 1,b2 27 23,br 1 27 26] [1,2]
abbrev aq5:=J [I 28 2,I 29 1,I 10 28,I 11 29] [10,11]
abbrev aq6:=al (di [I 12 4,I 13 0,I 14 2,bi 15 3 13 14,aY 16 3 15,I 17 0,I 18 1,bi 19 3 17 18,aY 20 3 19,a0 21 (.fX (ab 12) [ab 16,ab 20]),bD 22 .lss 21 0] [U,U,U,U,U,U,U,U,U,ff,U] [1,2,3,22]) (aH 22 (cb aq4 aq5 aR) aC)
abbrev aq3:=J [I 30 1,I 31 2,I 10 30,I 11 31] [10,11]
def G2:bs:=⟨32,[(.tmp 10),(.tmp 11)],cv aq2 aq6 aq3 aR⟩
theorem aGm:bB au (bE au Aj G2 []) Aj=some G2:=by kernel_rfl
end Go.aL.C
namespace Go.aL.C
open Go.aL
structure bG where
 stop:Int
 cJ:Int
 cf:Int
 ha:Bool
 fC:Bool
def bG.row(c:bG):List V:=[.int .i64 c.stop,.int .i64 c.cJ,.int .i64 c.cf,.bool c.ha,.bool c.fC]
def bG.wf(c:bG):Prop:=ev c.stop/\ev c.cJ/\ev c.cf
def within(n low high:Int):Bool:=decide (low<=n)&&decide (n<=high)
theorem nc(n low high:Int):bT au rR [.int .i64 n,.int .i64 low,.int .i64 high] (fun v=>v=.bool (within n low high)):=by
 refine bP To (by simp[Cz]) ?_;simp-implicitDefEqProofs (disch:=omega) only[go_sem,Cz];cases h:decide (low<=n)
 . simp-implicitDefEqProofs (disch:=omega) only[go_sem,within,h]
 . simp-implicitDefEqProofs (disch:=omega) only[go_sem,within,h]
def VA(c:UInt8):Bool:=
 (decide (97<=c.toNat)&&decide (c.toNat<=122))||(decide (65<=c.toNat)&&decide (c.toNat<=90))||(decide (48<=c.toNat)&&decide (c.toNat<=57))
def mark(c:UInt8):Bool:=decide (c.toNat=45)||decide (c.toNat=95)||decide (c.toNat=46)
def yo(c:UInt8):Bool:=VA c||mark c
def lg(s:List UInt8):Bool:=s.all yo&&decide (0<s.length)&&decide (s.length<=32)
theorem Qp{s:List UInt8}{i:Nat}{c:UInt8}(h:s[i]? =some c)(p:UInt8->Bool):(s.take (i+1)).all p=((s.take i).all p&&p c):=by
 rw[iu,h];simp[List.all_append]
theorem abT{s:List UInt8}{i:Nat}{c:UInt8}(h:s[i]? =some c){p:UInt8->Bool}(ay:p c=false):s.all p=false:=by
 rw[List.all_eq_false];exact⟨c,dQ h,by simp[ay]⟩
theorem Oj(c:UInt8):yo c=true↔(97<=c.toNat/\c.toNat<=122)∨(65<=c.toNat/\c.toNat<=90)∨(48<=c.toNat/\c.toNat<=57)∨c.toNat=45∨c.toNat=95∨c.toNat=46:=by
 simp only[yo,VA,mark,Bool.or_eq_true,cc,decide_eq_true_eq];omega
theorem Wf{s:List UInt8}{i:Nat}{c:UInt8}(h:s[i]? =some c)(ar:yo c=false):lg s=false:=by
 rw[lg,abT h ar];rfl
theorem We(c:UInt8)(h:¬((97<=c.toNat/\c.toNat<=122)∨(65<=c.toNat/\c.toNat<=90)∨(48<=c.toNat/\c.toNat<=57)∨c.toNat=45∨c.toNat=95∨c.toNat=46)):yo c=false:=by
 rw[<-Bool.not_eq_true,Oj];exact h
theorem vT(s:List UInt8)(ak:s.length<=maxLen):bT au xY [.str s] (fun v=>v=.bool (lg s)):=by
 have hm:maxLen=9223372036854775807:=by rfl
 refine bP S4 (by simp[B_]) ?_;simp-implicitDefEqProofs (disch:=omega) only[go_sem,B_];refine ej s (fun i vs M=>(s.take i).all yo=true/\vs=[.str s,.int .i64 i]/\M=[]) ⟨by simp,rfl,rfl⟩ ?_ ?_
 . rintro i c vs M ar hi aw ⟨eg,rfl,rfl⟩
   simp-implicitDefEqProofs (maxSteps:=3000000) (disch:=omega) only[go_sem,J6,aw,ar]
   repeat' (refine A2 (fun h=>?_) (fun h=>?_))
   all_goals first
    |(refine cS hi ⟨?_,rfl,rfl⟩
      rw[Qp ar,eg,(Oj c).2 (by omega)];rfl)
    |(rw[Wf ar (We c (by omega))])
 . rintro vs M ⟨eg,rfl,rfl⟩
   rw[gB] at eg;simp-implicitDefEqProofs (disch:=omega) only[go_sem,db];refine a5 (fun h=>?_) (fun h=>?_)
   . have az:0<s.length:=by omega
     simp-implicitDefEqProofs (disch:=omega) only[go_sem,lg,eg,az];exact decide_eq_decide.2 (by omega)
   . have az:¬0<s.length:=by omega
     simp-implicitDefEqProofs (disch:=omega) only[go_sem];simp[lg,az]
theorem AW(n:Nat)(h:n<18446744073709551616):IntKind.u64.wrap (n:Int)=n:=Yo _ (by omega) (by omega)
theorem Ew(a b:Nat)(a9:a<18446744073709551616)(aj:b<18446744073709551616):a|||b<18446744073709551616:=Nat.or_lt_two_pow (n:=64) a9 aj
theorem Lk(a b:Nat)(a9:a<18446744073709551616):a&&&b<18446744073709551616:=Nat.lt_of_le_of_lt Nat.and_le_left a9
theorem Ev(a b:Nat)(a9:a<18446744073709551616)(aj:b<18446744073709551616):qH .u64 a b=((a|||b:Nat):Int):=by
 have e:(iD 64 (a:Int)|||iD 64 (b:Int)).toNat=a|||b:=by
  rw[BitVec.ofInt_natCast,BitVec.ofInt_natCast,BitVec.toNat_or,BitVec.toNat_ofNat,BitVec.toNat_ofNat,Nat.mod_eq_of_lt a9,Nat.mod_eq_of_lt aj]
 show IntKind.u64.wrap ((iD 64 (a:Int)|||iD 64 (b:Int)).toNat:Int)=_;rw[e];exact AW _ (Ew a b a9 aj)
theorem Qu(a b:Nat)(a9:a<18446744073709551616)(aj:b<18446744073709551616):Fk .u64 a b=((a&&&b:Nat):Int):=by
 have e:(iD 64 (a:Int)&&&iD 64 (b:Int)).toNat=a&&&b:=by
  rw[BitVec.ofInt_natCast,BitVec.ofInt_natCast,BitVec.toNat_and,BitVec.toNat_ofNat,BitVec.toNat_ofNat,Nat.mod_eq_of_lt a9,Nat.mod_eq_of_lt aj]
 show IntKind.u64.wrap ((iD 64 (a:Int)&&&iD 64 (b:Int)).toNat:Int)=_;rw[e];exact AW _ (Lk a b a9)
def yh(a b:Nat):Nat:=a^^^(a&&&b)
theorem V3(a b j:Nat):(yh a b).testBit j=(a.testBit j&&!b.testBit j):=by
 rw[yh,Nat.testBit_xor,Nat.testBit_and];cases a.testBit j<;>cases b.testBit j<;>rfl
theorem QM{a j:Nat}(a9:a<18446744073709551616)(ap:64<=j):a.testBit j=false:=
 Nat.testBit_lt_two_pow (Nat.lt_of_lt_of_le a9 (Nat.pow_le_pow_right (n:=2) (by omega) ap))
theorem aL8{a:Nat}(h:∀j,64<=j->a.testBit j=false):a<18446744073709551616:=
 Nat.lt_pow_two_of_testBit (n:=64) a fun j ap=>h j ap
theorem aMx(a b:Nat)(a9:a<18446744073709551616):yh a b<18446744073709551616:=
 aL8 fun j ap=>by rw[V3,QM a9 ap];rfl
theorem abX(a b:Nat)(a9:a<18446744073709551616)(aQ7:b<18446744073709551616):Lj .u64 a b=((yh a b:Nat):Int):=by
 have e:(iD 64 (a:Int)&&&~~~iD 64 (b:Int)).toNat=yh a b:=by
  apply Nat.eq_of_testBit_eq;intro j;rw[V3,BitVec.ofInt_natCast,BitVec.ofInt_natCast,BitVec.testBit_toNat,BitVec.getLsbD_and,BitVec.getLsbD_not,BitVec.getLsbD_ofNat,BitVec.getLsbD_ofNat];by_cases ap:j<64
  . simp[ap]
  . simp[ap,QM a9 (Nat.le_of_not_lt ap)]
 show IntKind.u64.wrap ((iD 64 (a:Int)&&&~~~iD 64 (b:Int)).toNat:Int)=_;rw[e];exact AW _ (aMx a b a9)
def pop:Nat->Nat->Nat
 |0,_=>0
 |k+1,a=>a%2+pop k (a/2)
theorem Wz(k:Nat):∀a,a≠0->a<2^k->pop k (a&&&(a -1))+1=pop k a:=by
 induction k with
 |zero=>intro a a8 h;simp at h;omega
 |succ k bu=>
  intro a a8 h;have aw:(a&&&(a -1))/2=(a/2)&&&((a -1)/2):=Nat.and_div_two;have hm:(a&&&(a -1))%2=0:=by
   rcases Nat.mod_two_eq_zero_or_one a with aa|aa
   . have:¬(a&&&(a -1))%2=1:=by rw[Nat.and_mod_two_eq_one];omega
     omega
   . have:¬(a&&&(a -1))%2=1:=by rw[Nat.and_mod_two_eq_one];omega
     omega
  simp only[pop,aw,hm];rcases Nat.mod_two_eq_zero_or_one a with aa|aa
  . have e:(a -1)/2=a/2 -1:=by omega
    have:=bu (a/2) (by omega) (by rw[Nat.pow_succ] at h;omega);rw[e,aa];omega
  . have e:(a -1)/2=a/2:=by omega
    rw[e,Nat.and_self,aa];omega
theorem aNs(k:Nat):∀a,pop k a<=k:=by
 induction k with
 |zero=>intro a;simp[pop]
 |succ k bu=>intro a;have:=bu (a/2);simp only[pop];omega
theorem aNv(k:Nat):pop k 0=0:=by
 induction k with
 |zero=>rfl
 |succ k bu=>simp[pop,bu]
attribute [irreducible] pop
def p7(z:Int):Nat:=(z%18446744073709551616).toNat
theorem re(z:Int):p7 z<18446744073709551616:=by unfold p7;omega
theorem Bm(k:IntKind)(z:Int):u3 .u64 (.int k z)=some (.int .u64 (p7 z:Nat)):=by
 have e:(2:Int)^IntKind.u64.bits=18446744073709551616:=by decide
 rw[RA]
 congr 2
 unfold IntKind.wrap p7;simp only[e,show IntKind.u64.signed=false from rfl,oS];simp only[jh,if_false];omega
theorem Fe(a b:Nat)(a9:a<18446744073709551616)(aj:b<18446744073709551616):bT au DG [.int .u64 a,.int .u64 b] (fun v=>v=.int .u64 (a|||b:Nat)):=by
 refine bP Sz (by simp[BI]) ?_;simp-implicitDefEqProofs (disch:=omega) only[go_sem,BI,Ev a b a9 aj]
theorem P0(a b:Nat)(a9:a<18446744073709551616)(aj:b<18446744073709551616):bT au Ib [.int .u64 a,.int .u64 b] (fun v=>v=.bool (decide (yh a b=0))):=by
 refine bP SB (by simp[BK]) ?_;simp-implicitDefEqProofs (disch:=omega) only[go_sem,BK,abX a b a9 aj];exact decide_eq_decide.2 (by omega)
theorem PZ(a:Nat)(a9:a<18446744073709551616):bT au H_ [.int .u64 a] (fun v=>v=.int .i64 (pop 64 a:Nat)):=by
 refine bP Sy (by simp[BH]) ?_;simp-implicitDefEqProofs (disch:=omega) only[go_sem,BH];have sQ:=aNv 64;have Xt:∀b:Nat,b≠0->b<18446744073709551616->IntKind.u64.wrap ((b:Int) -1)=((b -1:Nat):Int):=fun b a8 aa=>by
  rw[Yo _ (by omega) (by omega)];omega
 have ay:=aNs 64 a;refine⟨fun n vs M=>∃b k:Nat,n=pop 64 b/\b<18446744073709551616/\k+pop 64 b=pop 64 a/\vs=[.int .u64 b,.int .i64 k]/\M=[],?_,?_⟩
 . simp-implicitDefEqProofs (disch:=omega) only[go_sem]
   refine a5 (fun h=>?_) (fun h=>?_)
   . have:a=0:=by omega
     subst this;simp-implicitDefEqProofs (disch:=omega) only[go_sem,sQ];rfl
   . simp-implicitDefEqProofs (disch:=omega) only[go_sem]
     have a8:a≠0:=by omega
     have aw:=Wz 64 a a8 a9;rw[Xt a a8 a9,Qu a (a -1) a9 (by omega)];exact⟨_,a&&&(a -1),1,rfl,Lk _ _ a9,by omega,rfl⟩
 . rintro n vs M ⟨b,k,rfl,aj,ao,rfl,rfl⟩
   simp-implicitDefEqProofs (disch:=omega) only[go_sem];refine a5 (fun h=>?_) (fun h=>?_)
   . have:b=0:=by omega
     subst this;rw[sQ] at ao;simp-implicitDefEqProofs (disch:=omega) only[go_sem];omega
   . simp-implicitDefEqProofs (disch:=omega) only[go_sem]
     have a8:b≠0:=by omega
     have aw:=Wz 64 b a8 aj;rw[Xt b a8 aj,Qu b (b -1) aj (by omega)];exact⟨_,by omega,b&&&(b -1),k+1,rfl,Lk _ _ aj,by omega,rfl⟩
theorem XX{i:Nat}(hi:i<64):2^i<18446744073709551616:=Nat.pow_lt_pow_right (a:=2) (by omega) hi
def aD7(s i:Nat):List Nat:=(c5 i).filter s.testBit
theorem Pd(n:Int):IntKind.u64.wrap n=n%18446744073709551616:=by
 have e:(2:Int)^IntKind.u64.bits=18446744073709551616:=by decide
 unfold IntKind.wrap;simp only[e,show IntKind.u64.signed=false from rfl,oS];simp
theorem jG(n:Int):IntKind.i64.wrap n=if n%18446744073709551616>=9223372036854775808 then n%18446744073709551616 -18446744073709551616 else n%18446744073709551616:=by
 have e:(2:Int)^IntKind.i64.bits=18446744073709551616:=by decide
 have fx:(2:Int)^(IntKind.i64.bits -1)=9223372036854775808:=by decide
 unfold IntKind.wrap;simp only[e,fx,show IntKind.i64.signed=true from rfl,Bool.true_and,decide_eq_true_eq]
theorem WC(a b d:Int)(a9:ev a)(aj:ev b)(aw:ev d):bT au I6 [.int .i64 a,.int .i64 b,.int .i64 d] (fun v=>v=.bool (decide (d<b -a))):=by
 obtain⟨bW,b8⟩:=a9;obtain⟨c2,dw⟩:=aj;obtain⟨d1,d2⟩:=aw;refine bP Tn (by simp[Cy]) ?_;simp-implicitDefEqProofs (maxSteps:=3000000) (disch:=omega) only[go_sem,Cy,J6]
 repeat' (refine A2 (fun h=>?_) (fun h=>?_))
 all_goals
  rw[Bool.eq_iff_iff];simp only[decide_eq_true_eq,Pd,true_iff,false_iff,jh];omega
structure ds where
 id:List UInt8
 hv:Int
 b5:Int
 gf:Int
 we:Int
 eW:Int
def ds.row(p:ds):List V:=[.str p.id,.int .i64 p.hv,.int .i64 p.b5,.int .i64 p.gf,.int .i64 p.we,.int .i64 p.eW]
def ds.wf(p:ds):Prop:=p.id.length<=maxLen/\ev p.hv/\ev p.b5/\ev p.gf/\ev p.we/\ev p.eW
def ds.right(p:ds):Bool:=within p.hv 0 1000000&&(within p.b5 1 8&&(within p.gf 1 16&&(within p.we 0 86400&&within p.eW 1 255)))
structure bf where
 cf:Int
 cJ:Int
 gf:Int
 eW:Int
def bf.row(r:bf):List V:=[.int .i64 r.cf,.int .i64 r.cJ,.int .i64 r.gf,.int .i64 r.eW]
def bf.wf(r:bf):Prop:=ev r.cf/\ev r.cJ/\ev r.gf/\ev r.eW
def A0(l:List bf):Nat:=l.foldl (fun a r=>a|||p7 r.gf) 0
def AA(l:List bf):Nat:=l.foldl (fun a r=>a|||p7 r.eW) 0
theorem Mo(f:bf->Int):∀(l:List bf)(a:Nat),a<18446744073709551616->l.foldl (fun a r=>a|||p7 (f r)) a<18446744073709551616
 |[],_,h=>h
 |r::l,a,h=>Mo f l _ (Ew _ _ h (re _))
theorem PC(l:List bf):A0 l<18446744073709551616:=Mo (·.gf) l 0 (by omega)
theorem Oe(l:List bf):AA l<18446744073709551616:=Mo (·.eW) l 0 (by omega)
theorem aQZ(l:List bf)(i:Nat)(r:bf)(h:l[i]? =some r):A0 (l.take (i+1))=A0 (l.take i)|||p7 r.gf:=by
 rw[A0,iu,h,List.foldl_append];rfl
theorem aMF(l:List bf)(i:Nat)(r:bf)(h:l[i]? =some r):AA (l.take (i+1))=AA (l.take i)|||p7 r.eW:=by
 rw[AA,iu,h,List.foldl_append];rfl
def EK(l:List bf):Int:=
 match l[0]?,l[l.length -1]? with
 |some a,some b=>b.cf -a.cf
 |_,_=>0
def lE(p:ds)(l:List bf):Bool:=
 decide (0<l.length)&&(decide ((l.length:Int)<=p.b5)&&(decide (EK l<=p.we)&&(decide ((pop 64 (A0 l):Int)<=p.gf)&&decide (yh (AA l) (p7 p.eW)=0))))
theorem YU(p:ds)(r fO:bf)(z m:Nat)(a_:z<18446744073709551616)(hm:m<18446744073709551616):
 b9 au D2 [.agg r.row,.ptr 1 0,.ptr 2 0] [.box p.row,.box [.int .u64 z],.box [.int .u64 m],.box fO.row] (fun v ah=>v=.tuple []/\ah=[.box p.row,.box [.int .u64 (z|||p7 r.gf:Nat)],.box [.int .u64 (m|||p7 r.eW:Nat)],.box fO.row]):=by
 refine bP Tl (by simp[Cx]) ?_;simp-implicitDefEqProofs (disch:=omega) only[go_sem,Cx,bf.row,Bm];first|refine b1 (Fe _ _ a_ (re _)) ?_|refine bV (Fe _ _ a_ (re _)) ?_
 simp-implicitDefEqProofs (disch:=omega) only[go_sem,Bm];first|refine b1 (Fe _ _ hm (re _)) ?_|refine bV (Fe _ _ hm (re _)) ?_
 simp-implicitDefEqProofs (disch:=omega) only[go_sem,ds.row]
theorem Sn{α:Type}{l:List α}(h:0<l.length):∃a b,l[0]? =some a/\l[l.length -1]? =some b:=
 ⟨l[0],l[l.length -1],by simp[h],by simp⟩
theorem Kh(p:ds)(l:List bf)(c:c4)(ay:p.wf)(ag:∀r∈l,r.wf)(hlen:l.length<=maxLen):bT au D1 [.agg p.row,.slice (l.map bf.row) c] (fun v=>v=.bool (lE p l)):=by
 have hm:maxLen=9223372036854775807:=by rfl
 obtain⟨_,_,rJ,aRI,fj,Nu⟩:=ay;refine bP Tm (by simp[Cw]) ?_;simp-implicitDefEqProofs (disch:=omega) only[go_sem,Cw,ds.row];refine a5 (fun h=>?_) (fun h=>?_)
 . have:lE p l=false:=by
    have:¬0<l.length:=by omega
    simp[lE,this]
   simp-implicitDefEqProofs (disch:=omega) only[go_sem,this]
 have a8:0<l.length:=by omega
 obtain⟨a,b,a9,aj⟩:=Sn a8;simp-implicitDefEqProofs (disch:=omega) only[go_sem];refine a5 (fun aa=>?_) (fun aa=>?_)
 . have:lE p l=false:=by
    have:¬(l.length:Int)<=p.b5:=by omega
    simp[lE,this]
   simp-implicitDefEqProofs (disch:=omega) only[go_sem,this]
 simp-implicitDefEqProofs (disch:=omega) only[go_sem,a9,aj,bf.row];first|refine b1 (WC _ _ _ ?_ ?_ fj) ?_|refine bV (WC _ _ _ ?_ ?_ fj) ?_
 . exact(ag a (dQ a9)).1
 . exact(ag b (dQ aj)).1
 have aRO:EK l=b.cf -a.cf:=by simp only[EK,a9,aj]
 simp-implicitDefEqProofs (disch:=omega) only[go_sem];refine a5 (fun af=>?_) (fun af=>?_)
 . have:lE p l=false:=by
    have:¬EK l<=p.we:=by omega
    simp[lE,this]
   simp-implicitDefEqProofs (disch:=omega) only[go_sem,this]
 simp-implicitDefEqProofs (disch:=omega) only[go_sem];refine ej l (fun i vs M=>vs=[.ptr 0 0,.ptr 1 0,.ptr 2 0,.fn D2 [.ptr 1 0,.ptr 2 0],.slice (l.map bf.row) c,.int .i64 l.length,.int .i64 i]/\
  M=[.box p.row,.box [.int .u64 (A0 (l.take i))],.box [.int .u64 (AA (l.take i))]]) ⟨rfl,rfl⟩ ?_ ?_
 . rintro i r vs M an hi aw ⟨rfl,rfl⟩
   simp-implicitDefEqProofs (disch:=omega) only[go_sem,aw,an,bf.row];refine ew (YU p r r _ _ (PC _) (Oe _)) ?_;rintro v ah ⟨rfl,rfl⟩;simp-implicitDefEqProofs (disch:=omega) only[go_sem];refine dJ hi rfl ⟨rfl,?_⟩;rw[aQZ l i r an,aMF l i r an];rfl
 . rintro vs M ⟨rfl,rfl⟩
   simp-implicitDefEqProofs (disch:=omega) only[go_sem,db,gB];first|refine b1 (PZ _ (PC l)) ?_|refine bV (PZ _ (PC l)) ?_
   simp-implicitDefEqProofs (disch:=omega) only[go_sem,ds.row];refine a5 (fun az=>?_) (fun az=>?_)
   . simp-implicitDefEqProofs (disch:=omega) only[go_sem,Bm]
     first|refine b1 (P0 _ _ (Oe l) (re _)) ?_|refine bV (P0 _ _ (Oe l) (re _)) ?_
     simp-implicitDefEqProofs (disch:=omega) only[go_sem,cq];have a4:(l.length:Int)<=p.b5:=by omega
     have bd:EK l<=p.we:=by omega
     simp[lE,a8,a4,bd,az]
   . simp-implicitDefEqProofs (disch:=omega) only[go_sem]
     simp[lE,az]
structure bp where
 cR:List ds
 tag:c4
 lF:Int
 within:Int
 pF:Int
def bp.row(f:bp):List V:=[.slice (f.cR.map ds.row) f.tag,.int .i64 f.lF,.int .i64 f.within,.int .i64 f.pF]
def bp.wf(f:bp):Prop:=(∀p∈f.cR,p.wf)/\f.cR.length<=maxLen/\ev f.lF/\ev f.within/\ev f.pF
def nX(gS:List (List UInt8)):List (V×V):=gS.map fun s=>(.str s,.bool true)
theorem NV(s:List UInt8):∀gS,nI .str (.str s) (nX gS)=true
 |[]=>rfl
 |i::gS=>by
  show((hE .str (.str s) (.str i)).isSome&&nI .str (.str s) (nX gS))=true;rw[NV s gS];rfl
theorem VM(s:List UInt8):∀gS,rT .str (.str s) (nX gS)=if s∈gS then some (.bool true) else none
 |[]=>rfl
 |i::gS=>by
  show(bif (hE .str (.str s) (.str i)).getD false then some (V.bool true) else rT .str (.str s) (nX gS))=_;rw[VM s gS];by_cases h:s=i
  . subst h;simp[hE]
  . simp[hE,h]
theorem VS(s:List UInt8):∀gS,s∉gS->oB .str (.str s) (.bool true) (nX gS)=nX (gS++[s])
 |[],_=>rfl
 |i::gS,h=>by
  have aa:s≠i:=fun e=>h (by simp[e]);have af:=VS s gS (fun e=>h (by simp[e]));show(bif (hE .str (.str s) (.str i)).getD false then _ else(V.str i,V.bool true)::oB .str (.str s) (.bool true) (nX gS))=_;rw[af];simp[hE,aa,nX]
theorem X2(n:Nat):∀gS,ni n (nX gS)=true
 |[]=>rfl
 |i::gS=>by
  show(V.under n (.bool true)&&ni n (nX gS))=true;rw[X2 n gS];rfl
theorem aNu(vs:List V)(b:List V)(gS:List (List UInt8))(L:Mem)(aa:cT 2 vs=true)(af:cT 2 b=true):hT 2 vs ([.box b,.map (nX gS)]++L)=true:=by
 simp[hT,aa,cq,a1.under,af,X2]
theorem aLW(s:List UInt8)(gS:List (List UInt8)):nK .str (.bool false) false (.str s) (nX gS)=some (.bool (decide (s∈gS))):=by
 simp only[nK,oA,m9,kI,vX,cond_true,ji,NV,VM,FF];by_cases ak:s∈gS<;>simp[ak]
theorem aP0{s:List UInt8}{gS:List (List UInt8)}(ak:s∉gS):nZ .str (.str s) (.bool true) (nX gS)=some (nX (gS++[s])):=by
 simp only[nZ,kI,vX,NV,V.iK,eQ,cond_true,VS s gS ak]
def pM(l:List ds)(i:Nat):Int:=
 match l[i]? with
 |none=>0
 |some p=>if lg p.id=false then 12 else if p.id∈(l.take i).map ds.id then 6 else if p.right=false then 2 else 0
def k5(f:bp):Int×Int:=
 if within f.lF 0 1000000=true/\within f.within 0 86400=true/\within f.pF 0 1000000=true then
  if 16<f.cR.length then(0,5) else sD (pM f.cR) f.cR.length
 else(-1,2)
def j5(p:Int×Int):V:=.tuple [.int .i64 p.1,.int .i64 p.2]
theorem EB(f:bp)(aD:f.wf):bT au Ab [.agg f.row] (fun v=>v=j5 (k5 f)):=by
 refine bP Tk (by simp[Cv]) ?_;simp-implicitDefEqProofs (disch:=omega) only[go_sem,Cv,bp.row];first|refine b1 (nc _ _ _) ?_|refine bV (nc _ _ _) ?_
 simp-implicitDefEqProofs (disch:=omega) only[go_sem];refine ck (fun aa=>?_) (fun aa=>?_);rotate_left
 . simp-implicitDefEqProofs (disch:=omega) only[go_sem,j5,k5,aa]
   rfl
 simp-implicitDefEqProofs (disch:=omega) only[go_sem];first|refine b1 (nc _ _ _) ?_|refine bV (nc _ _ _) ?_
 simp-implicitDefEqProofs (disch:=omega) only[go_sem];refine ck (fun af=>?_) (fun af=>?_);rotate_left
 . simp-implicitDefEqProofs (disch:=omega) only[go_sem,j5,k5,aa,af]
   rfl
 simp-implicitDefEqProofs (disch:=omega) only[go_sem];first|refine b1 (nc _ _ _) ?_|refine bV (nc _ _ _) ?_
 simp-implicitDefEqProofs (disch:=omega) only[go_sem];refine ck (fun az=>?_) (fun az=>?_);rotate_left
 . simp-implicitDefEqProofs (disch:=omega) only[go_sem,j5,k5,aa,af,az]
   rfl
 simp-implicitDefEqProofs (disch:=omega) only[go_sem];refine a5 (fun bh=>?_) (fun bh=>?_)
 . have:16<f.cR.length:=by omega
   simp-implicitDefEqProofs (disch:=omega) only[go_sem,j5,k5,aa,af,az,this];rfl
 have Mv:¬16<f.cR.length:=by omega
 have fs:k5 f=sD (pM f.cR) f.cR.length:=by simp[k5,aa,af,az,Mv]
 simp-implicitDefEqProofs (disch:=omega) only[go_sem,fs];refine ej f.cR (fun i vs M=>(∀k,k<i->pM f.cR k=0)/\vs=[.map 1,.slice (f.cR.map ds.row) f.tag,.int .i64 f.cR.length,.int .i64 i]/\
  M=[.box f.row,.map (nX ((f.cR.take i).map ds.id))]) ⟨fun k ao=>absurd ao (e8 k),rfl,rfl⟩ ?_ ?_
 . rintro i p vs M ay hi aw ⟨eg,rfl,rfl⟩
   have fin:∀e,pM f.cR i=e->e≠0->V.tuple [.int .i64 i,.int .i64 e]=j5 (sD (pM f.cR) f.cR.length):=fun e aa af=>by
    rw[aES hi eg (by rw[aa];exact af),aa];rfl
   have zK:pM f.cR i=if lg p.id=false then 12 else if p.id∈(f.cR.take i).map ds.id then 6 else if p.right=false then 2 else 0:=by simp only[pM,ay]
   simp-implicitDefEqProofs (disch:=omega) only[go_sem,aw,ay,ds.row];first|refine b1 (vT _ (aD.1 p (dQ ay)).1) ?_|refine bV (vT _ (aD.1 p (dQ ay)).1) ?_
   simp-implicitDefEqProofs (disch:=omega) only[go_sem];refine ck (fun aT=>?_) (fun aT=>?_);rotate_left
   . simp-implicitDefEqProofs (disch:=omega) only[go_sem]
     exact fin 12 (by rw[zK,if_pos aT]) (by decide)
   have tH:¬lg p.id=false:=by simp[aT]
   simp-implicitDefEqProofs (disch:=omega) only[go_sem,aLW];refine a5 (fun a2=>?_) (fun a2=>?_)
   . simp-implicitDefEqProofs (disch:=omega) only[go_sem]
     exact fin 6 (by rw[zK,if_neg tH,if_pos a2]) (by decide)
   have Bf:p.right=false->pM f.cR i=2:=fun h=>by rw[zK,if_neg tH,if_neg a2,if_pos h]
   simp-implicitDefEqProofs (disch:=omega) only[go_sem];first|refine b1 (nc _ _ _) ?_|refine bV (nc _ _ _) ?_
   simp-implicitDefEqProofs (disch:=omega) only[go_sem];refine ck (fun bI=>?_) (fun bI=>?_);rotate_left
   . simp-implicitDefEqProofs (disch:=omega) only[go_sem]
     exact fin 2 (Bf (by simp[ds.right,bI])) (by decide)
   simp-implicitDefEqProofs (disch:=omega) only[go_sem];first|refine b1 (nc _ _ _) ?_|refine bV (nc _ _ _) ?_
   simp-implicitDefEqProofs (disch:=omega) only[go_sem];refine ck (fun ce=>?_) (fun ce=>?_);rotate_left
   . simp-implicitDefEqProofs (disch:=omega) only[go_sem]
     exact fin 2 (Bf (by simp[ds.right,ce])) (by decide)
   simp-implicitDefEqProofs (disch:=omega) only[go_sem];first|refine b1 (nc _ _ _) ?_|refine bV (nc _ _ _) ?_
   simp-implicitDefEqProofs (disch:=omega) only[go_sem];refine ck (fun dS=>?_) (fun dS=>?_);rotate_left
   . simp-implicitDefEqProofs (disch:=omega) only[go_sem]
     exact fin 2 (Bf (by simp[ds.right,dS])) (by decide)
   simp-implicitDefEqProofs (disch:=omega) only[go_sem];first|refine b1 (nc _ _ _) ?_|refine bV (nc _ _ _) ?_
   simp-implicitDefEqProofs (disch:=omega) only[go_sem];refine ck (fun ft=>?_) (fun ft=>?_);rotate_left
   . simp-implicitDefEqProofs (disch:=omega) only[go_sem]
     exact fin 2 (Bf (by simp[ds.right,ft])) (by decide)
   simp-implicitDefEqProofs (disch:=omega) only[go_sem];first|refine b1 (nc _ _ _) ?_|refine bV (nc _ _ _) ?_
   simp-implicitDefEqProofs (disch:=omega) only[go_sem];refine ck (fun fl=>?_) (fun fl=>?_);rotate_left
   . simp-implicitDefEqProofs (disch:=omega) only[go_sem]
     exact fin 2 (Bf (by simp[ds.right,fl])) (by decide)
   simp-implicitDefEqProofs (disch:=omega) only[go_sem,aP0 a2];refine dJ hi (aNu _ _ _ _ rfl rfl) ⟨fun k ao=>?_,rfl,?_⟩
   . rcases mR k i with bx|pl
     . exact eg k bx
     . have:k=i:=by omega
       subst this;rw[zK,if_neg tH,if_neg a2,if_neg (by simp[ds.right,bI,ce,dS,ft,fl])]
   . have e:(f.cR.take (i+1)).map ds.id=(f.cR.take i).map ds.id++[p.id]:=by rw[iu,ay,List.map_append]<;>rfl
     rw[e];rfl
 . rintro vs M ⟨eg,rfl,rfl⟩
   simp-implicitDefEqProofs (disch:=omega) only[go_sem,db,Sm eg,j5]
theorem aET{e:Nat->Int}{n:Nat}(h:(sD e n).2=0):∀k,k<n->e k=0:=by
 intro k ao;unfold sD at h;cases aD:(c5 n).find? (fun k=>decide (e k≠0)) with
 |none=>
  rw[List.find?_eq_none] at aD;have:=aD k (ka.2 ao);simpa using this
 |some j=>
  rw[aD] at h;have:=List.find?_some aD;simp only[ne_eq,decide_not,lV,decide_eq_false_iff_not] at this;exact absurd h this
theorem within_iff{n a b:Int}:within n a b=true↔a<=n/\n<=b:=by simp[within]
structure bp.ia(f:bp):Prop where
 lF:0<=f.lF/\f.lF<=1000000
 within:0<=f.within/\f.within<=86400
 pF:0<=f.pF/\f.pF<=1000000
 len:f.cR.length<=16
 AH:∀p∈f.cR,(0<=p.hv/\p.hv<=1000000)/\(1<=p.b5/\p.b5<=8)/\(1<=p.gf/\p.gf<=16)/\(0<=p.we/\p.we<=86400)/\(1<=p.eW/\p.eW<=255)
theorem FG{f:bp}(h:(k5 f).2=0):f.ia:=by
 unfold k5 at h;split at h
 . rename_i hw
   split at h
   . simp at h
   . rename_i ag
     have a_:=aET h;refine⟨within_iff.1 hw.1,within_iff.1 hw.2.1,within_iff.1 hw.2.2,by omega,fun p ay=>?_⟩;obtain⟨i,hi⟩:=ir ay;have:=a_ i (bo.1 hi).1;simp only[pM,hi] at this;split at this
     . simp at this
     . split at this
       . simp at this
       . split at this
         . simp at this
         . rename_i an
           simp only[Bool.not_eq_false,ds.right,cc,within_iff] at an;exact an
 . simp at h
end Go.aL.C
namespace Go.aL.C
open Go.aL
structure Stop where
 id:List UInt8
 kx:Int
 free:Bool
 change:Int
def Stop.row(s:Stop):List V:=[.str s.id,.int .i64 s.kx,.bool s.free,.int .i64 s.change]
def Stop.wf(s:Stop):Prop:=s.id.length<=maxLen/\ev s.kx/\ev s.change
structure fo where
 id:List UInt8
 mode:Int
 Bg:Bool
def fo.row(r:fo):List V:=[.str r.id,.int .i64 r.mode,.bool r.Bg]
def fo.wf(r:fo):Prop:=r.id.length<=maxLen/\ev r.mode
structure bM where
 te:Int
 day:Int
 inst:Int
 id:List UInt8
 ik:Int
 free:Bool
 gone:Bool
 calls:List bG
 tag:c4
def bM.row(r:bM):List V:=[.int .i64 r.te,.int .i64 r.day,.int .i64 r.inst,.str r.id,.int .i64 r.ik,.bool r.free,.bool r.gone,.slice (r.calls.map bG.row) r.tag]
def bM.wf(r:bM):Prop:=ev r.te/\ev r.day/\ev r.inst/\r.id.length<=maxLen/\ev r.ik/\(∀c∈r.calls,c.wf)/\r.calls.length<=maxLen
structure dG where
 src:Int
 h5:Int
 dst:Int
 kj:Int
 stay:Bool
def dG.row(l:dG):List V:=[.int .i64 l.src,.int .i64 l.h5,.int .i64 l.dst,.int .i64 l.kj,.bool l.stay]
def dG.wf(l:dG):Prop:=ev l.src/\ev l.h5/\ev l.dst/\ev l.kj
structure Path where
 src:Int
 dst:Int
 dL:Int
 free:Bool
 deriving DecidableEq
def Path.row(p:Path):List V:=[.int .i64 p.src,.int .i64 p.dst,.int .i64 p.dL,.bool p.free]
def Path.wf(p:Path):Prop:=ev p.src/\ev p.dst/\ev p.dL
structure Net where
 stops:List Stop
 fP:List fo
 runs:List bM
 ch:List dG
 paths:List Path
 dD:bp
 mN:c4
 rc:c4
 pS:c4
 lc:c4
 qI:c4
def Net.row(n:Net):List V:=[.slice (n.stops.map Stop.row) n.mN,.slice (n.fP.map fo.row) n.rc,.slice (n.runs.map bM.row) n.pS,.slice (n.ch.map dG.row) n.lc,.slice (n.paths.map Path.row) n.qI,
 .slice (n.dD.cR.map ds.row) n.dD.tag,.int .i64 n.dD.lF,.int .i64 n.dD.within,.int .i64 n.dD.pF]
structure Net.wf(n:Net):Prop where
 stops:(∀s∈n.stops,s.wf)/\n.stops.length<=maxLen
 fP:(∀s∈n.fP,s.wf)/\n.fP.length<=maxLen
 runs:(∀s∈n.runs,s.wf)/\n.runs.length<=maxLen
 ch:(∀s∈n.ch,s.wf)/\n.ch.length<=maxLen
 paths:(∀s∈n.paths,s.wf)/\n.paths.length<=maxLen
 dD:n.dD.wf
def Ff(l:List Stop):Prop:=l.length<=64/\∀(i:Nat)(s:Stop),l[i]? =some s->lg s.id=true/\(0<=s.kx/\s.kx<=15)/\(0<=s.change/\s.change<=3600)/\∀(k:Nat)(t:Stop),k<i->l[k]? =some t->t.id≠s.id
def Ba(l:List fo):Prop:=l.length<=64/\∀(i:Nat)(s:fo),l[i]? =some s->lg s.id=true/\(0<=s.mode/\s.mode<=7)/\∀(k:Nat)(t:fo),k<i->l[k]? =some t->t.id≠s.id
def E0(l:List bG)(stops:Int)(low high:Int)(i:Nat):Prop:=∀c,l[i]? =some c->(0<=c.stop/\c.stop<stops)/\(low<=c.cJ/\c.cJ<=c.cf/\c.cf<=high)/\∀p,0<i->l[i -1]? =some p->p.stop≠c.stop/\p.cf<=c.cJ
def A4(l:List bG)(stops low high:Int):Prop:=2<=l.length/\l.length<=32/\∀i,E0 l stops low high i
def bM.key(r:bM):List UInt8×Int×Int:=(r.id,r.day,r.inst)
def Lc(n:Net)(i:Nat):Prop:=∀r,n.runs[i]? =some r->lg r.id=true/\-1<=r.te/\0<=r.inst/\(0<=r.day/\r.day<=36524)/\(0<=r.ik/\r.ik<n.fP.length)/\A4 r.calls n.stops.length 0 3155932800/\
 ∀(k:Nat)(o:bM),k<i->n.runs[k]? =some o->o.key≠r.key
def y8(n:Net):Prop:=n.runs.length<=1024/\∀i,Lc n i
theorem gn(n low high:Int):bT au ks [.int .i64 n,.int .i64 low,.int .i64 high] (fun v=>v=.bool (within n low high)):=by
 refine bP aGA (by simp[Hf]) ?_;simp-implicitDefEqProofs (disch:=omega) only[go_sem,Hf];cases h:decide (low<=n)
 . simp-implicitDefEqProofs (disch:=omega) only[go_sem,within,h]
 . simp-implicitDefEqProofs (disch:=omega) only[go_sem,within,h]
theorem qw(n low high:Int):bT au ud [.int .i64 n,.int .i64 low,.int .i64 high] (fun v=>v=.bool (within n low high)):=by
 refine bP aGJ (by simp[Ho]) ?_;simp-implicitDefEqProofs (disch:=omega) only[go_sem,Ho];cases h:decide (low<=n)
 . simp-implicitDefEqProofs (disch:=omega) only[go_sem,within,h]
 . simp-implicitDefEqProofs (disch:=omega) only[go_sem,within,h]
theorem uW(s:List UInt8)(ak:s.length<=maxLen):bT au x0 [.str s] (fun v=>v=.bool (lg s)):=by
 have hm:maxLen=9223372036854775807:=by rfl
 refine bP aGy (by simp[He]) ?_;simp-implicitDefEqProofs (disch:=omega) only[go_sem,He];refine a5 (fun h=>?_) (fun aa=>?_)
 . have:lg s=false:=by
    have:¬0<s.length:=by omega
    simp[lg,this]
   simp-implicitDefEqProofs (disch:=omega) only[go_sem,this]
 simp-implicitDefEqProofs (disch:=omega) only[go_sem];refine a5 (fun h=>?_) (fun af=>?_)
 . have:lg s=false:=by
    have:¬s.length<=32:=by omega
    simp[lg,this]
   simp-implicitDefEqProofs (disch:=omega) only[go_sem,this]
 simp-implicitDefEqProofs (disch:=omega) only[go_sem];refine ej s (fun i vs M=>(s.take i).all yo=true/\vs=[.str s,.int .i64 i]/\M=[]) ⟨by simp,rfl,rfl⟩ ?_ ?_
 . rintro i c vs M ar hi aw ⟨eg,rfl,rfl⟩
   simp-implicitDefEqProofs (disch:=omega) only[go_sem,aw,ar]
   repeat' (first|simp-implicitDefEqProofs (disch:=omega) only[go_sem]|refine a5 (fun h=>?_) (fun h=>?_))
   all_goals first
    |(refine cS hi ⟨?_,rfl,rfl⟩
      rw[Qp ar,eg,(Oj c).2 (by omega)];rfl)
    |(rw[Wf ar (We c (by omega))])
 . rintro vs M ⟨eg,rfl,rfl⟩
   rw[gB] at eg;simp-implicitDefEqProofs (disch:=omega) only[go_sem,db];have az:0<s.length:=by omega
   have bh:s.length<=32:=by omega
   simp[lg,eg,az,bh]
def ga(G:Prop)(v:V):Prop:=∃i e:Int,v=.tuple [.int .i64 i,.int .i64 e]/\(e=0->G)
theorem ga.err{G:Prop}(i e:Int)(he:e≠0):ga G (.tuple [.int .i64 i,.int .i64 e]):=⟨i,e,rfl,fun h=>absurd h he⟩
theorem ga.ok{G:Prop}(i:Int)(h:G):ga G (.tuple [.int .i64 i,.int .i64 0]):=⟨i,0,rfl,fun _=>h⟩
end Go.aL.C
namespace Go.aL.C
open Go.aL
theorem aN7(l:List Stop)(c:c4)(ag:∀s∈l,s.wf)(hlen:l.length<=maxLen):bT au JE [.slice (l.map Stop.row) c] (ga (Ff l)):=by
 have hm:maxLen=9223372036854775807:=by rfl
 refine bP aGG (by simp[Hl]) ?_;simp-implicitDefEqProofs (disch:=omega) only[go_sem,Hl];refine a5 (fun h=>?_) (fun a8=>?_)
 . simp-implicitDefEqProofs (disch:=omega) only[go_sem]
   exact ga.err _ _ (by omega)
 simp-implicitDefEqProofs (disch:=omega) only[go_sem];refine ej l (fun i vs M=>vs=[.slice (l.map Stop.row) c,.int .i64 i]/\M=[]/\∀(j:Nat)(s:Stop),j<i->l[j]? =some s->lg s.id=true/\(0<=s.kx/\s.kx<=15)/\(0<=s.change/\s.change<=3600)/\∀(k:Nat)(t:Stop),k<j->l[k]? =some t->t.id≠s.id)
  ⟨rfl,rfl,fun j s ap=>absurd ap (e8 _)⟩ ?_ ?_;rotate_left
 . rintro vs M ⟨rfl,rfl,H⟩
   simp-implicitDefEqProofs (disch:=omega) only[go_sem,db];exact ga.ok _ ⟨by omega,fun i s ak=>H i s (bo.1 ak).1 ak⟩
 rintro i s vs M ak hi aw ⟨rfl,rfl,H⟩;have vF:=ag s (dQ ak);simp-implicitDefEqProofs (disch:=omega) only[go_sem,aw,ak,Stop.row];first|refine b1 (uW s.id vF.1) ?_|refine bV (uW s.id vF.1) ?_
 simp-implicitDefEqProofs (disch:=omega) only[go_sem];refine ck (fun aK=>?_) (fun aK=>?_);rotate_left
 . simp-implicitDefEqProofs (disch:=omega) only[go_sem]
   exact ga.err _ _ (by omega)
 simp-implicitDefEqProofs (disch:=omega) only[go_sem];refine ge i (fun k vs M=>vs=[.slice (l.map Stop.row) c,.int .i64 i,.int .i64 k]/\M=[]/\∀(j:Nat)(t:Stop),j<k->l[j]? =some t->t.id≠s.id) ⟨rfl,rfl,fun j s ap=>absurd ap (e8 _)⟩ ?_ ?_
 . rintro k vs M ao fi ⟨rfl,rfl,h9⟩
   obtain⟨t,aV⟩:∃t,l[k]? =some t:=⟨l[k],by simp⟩;simp-implicitDefEqProofs (disch:=omega) only[go_sem,fi,ak,aV,Stop.row];refine a5 (fun he=>?_) (fun he=>?_)
   . simp-implicitDefEqProofs (disch:=omega) only[go_sem]
     exact ga.err _ _ (by omega)
   . simp-implicitDefEqProofs (disch:=omega) only[go_sem]
     refine cS ao ⟨rfl,rfl,fun j u ap hu=>?_⟩;rcases ju.1 ap with h|h
     . exact h9 j u h hu
     . subst h;rw[aV] at hu;cases hu;exact he
 rintro vs M ⟨rfl,rfl,h9⟩;simp-implicitDefEqProofs (disch:=omega) only[go_sem,db,ak,Stop.row];first|refine b1 (gn _ _ _) ?_|refine bV (gn _ _ _) ?_
 simp-implicitDefEqProofs (disch:=omega) only[go_sem];refine ck (fun aa=>?_) (fun aa=>?_);rotate_left
 . simp-implicitDefEqProofs (disch:=omega) only[go_sem]
   exact ga.err _ _ (by omega)
 simp-implicitDefEqProofs (disch:=omega) only[go_sem,ak,Stop.row];first|refine b1 (gn _ _ _) ?_|refine bV (gn _ _ _) ?_
 simp-implicitDefEqProofs (disch:=omega) only[go_sem];refine ck (fun af=>?_) (fun af=>?_);rotate_left
 . simp-implicitDefEqProofs (disch:=omega) only[go_sem]
   exact ga.err _ _ (by omega)
 simp-implicitDefEqProofs (disch:=omega) only[go_sem];refine cS hi ⟨rfl,rfl,fun j u ap hu=>?_⟩;rcases ju.1 ap with h|h
 . exact H j u h hu
 . subst h;rw[ak] at hu;cases hu
   exact⟨aK,within_iff.1 aa,within_iff.1 af,h9⟩
theorem aN5(l:List fo)(c:c4)(ag:∀s∈l,s.wf)(hlen:l.length<=maxLen):bT au JC [.slice (l.map fo.row) c] (ga (Ba l)):=by
 have hm:maxLen=9223372036854775807:=by rfl
 refine bP aGE (by simp[Hj]) ?_;simp-implicitDefEqProofs (disch:=omega) only[go_sem,Hj];refine a5 (fun h=>?_) (fun a8=>?_)
 . simp-implicitDefEqProofs (disch:=omega) only[go_sem]
   exact ga.err _ _ (by omega)
 simp-implicitDefEqProofs (disch:=omega) only[go_sem];refine ej l (fun i vs M=>vs=[.slice (l.map fo.row) c,.int .i64 i]/\M=[]/\∀(j:Nat)(s:fo),j<i->l[j]? =some s->lg s.id=true/\(0<=s.mode/\s.mode<=7)/\∀(k:Nat)(t:fo),k<j->l[k]? =some t->t.id≠s.id)
  ⟨rfl,rfl,fun j s ap=>absurd ap (e8 _)⟩ ?_ ?_;rotate_left
 . rintro vs M ⟨rfl,rfl,H⟩
   simp-implicitDefEqProofs (disch:=omega) only[go_sem,db];exact ga.ok _ ⟨by omega,fun i s ak=>H i s (bo.1 ak).1 ak⟩
 rintro i s vs M ak hi aw ⟨rfl,rfl,H⟩;have vF:=ag s (dQ ak);simp-implicitDefEqProofs (disch:=omega) only[go_sem,aw,ak,fo.row];first|refine b1 (uW s.id vF.1) ?_|refine bV (uW s.id vF.1) ?_
 simp-implicitDefEqProofs (disch:=omega) only[go_sem];refine ck (fun aK=>?_) (fun aK=>?_);rotate_left
 . simp-implicitDefEqProofs (disch:=omega) only[go_sem]
   exact ga.err _ _ (by omega)
 simp-implicitDefEqProofs (disch:=omega) only[go_sem];refine ge i (fun k vs M=>vs=[.slice (l.map fo.row) c,.int .i64 i,.int .i64 k]/\M=[]/\∀(j:Nat)(t:fo),j<k->l[j]? =some t->t.id≠s.id) ⟨rfl,rfl,fun j s ap=>absurd ap (e8 _)⟩ ?_ ?_
 . rintro k vs M ao fi ⟨rfl,rfl,h9⟩
   obtain⟨t,aV⟩:∃t,l[k]? =some t:=⟨l[k],by simp⟩;simp-implicitDefEqProofs (disch:=omega) only[go_sem,fi,ak,aV,fo.row];refine a5 (fun he=>?_) (fun he=>?_)
   . simp-implicitDefEqProofs (disch:=omega) only[go_sem]
     exact ga.err _ _ (by omega)
   . simp-implicitDefEqProofs (disch:=omega) only[go_sem]
     refine cS ao ⟨rfl,rfl,fun j u ap hu=>?_⟩;rcases ju.1 ap with h|h
     . exact h9 j u h hu
     . subst h;rw[aV] at hu;cases hu;exact he
 rintro vs M ⟨rfl,rfl,h9⟩;simp-implicitDefEqProofs (disch:=omega) only[go_sem,db,ak,fo.row];first|refine b1 (gn _ _ _) ?_|refine bV (gn _ _ _) ?_
 simp-implicitDefEqProofs (disch:=omega) only[go_sem];refine ck (fun aa=>?_) (fun aa=>?_);rotate_left
 . simp-implicitDefEqProofs (disch:=omega) only[go_sem]
   exact ga.err _ _ (by omega)
 simp-implicitDefEqProofs (disch:=omega) only[go_sem];refine cS hi ⟨rfl,rfl,fun j u ap hu=>?_⟩;rcases ju.1 ap with h|h
 . exact H j u h hu
 . subst h;rw[ak] at hu;cases hu
   exact⟨aK,within_iff.1 aa,h9⟩
end Go.aL.C
namespace Go.aL.C
open Go.aL
def fF(G:Prop)(v:V):Prop:=∃e:Int,v=.int .i64 e/\(e=0->G)
theorem fF.err{G:Prop}(e:Int)(he:e≠0):fF G (.int .i64 e):=⟨e,rfl,fun h=>absurd h he⟩
theorem fF.ok{G:Prop}(h:G):fF G (.int .i64 0):=⟨0,rfl,fun _=>h⟩
theorem aNV(l:List bG)(c:c4)(stops low high:Int)(ag:∀s∈l,s.wf)(hlen:l.length<=maxLen):bT au Ju [.slice (l.map bG.row) c,.int .i64 stops,.int .i64 low,.int .i64 high] (fF (A4 l stops low high)):=by
 have hm:maxLen=9223372036854775807:=by rfl
 refine bP aGs (by simp[G8]) ?_;simp-implicitDefEqProofs (disch:=omega) only[go_sem,G8];refine a5 (fun h=>?_) (fun a8=>?_)
 . simp-implicitDefEqProofs (disch:=omega) only[go_sem]
   exact fF.err _ (by omega)
 simp-implicitDefEqProofs (disch:=omega) only[go_sem];refine a5 (fun h=>?_) (fun aa=>?_)
 . simp-implicitDefEqProofs (disch:=omega) only[go_sem]
   exact fF.err _ (by omega)
 simp-implicitDefEqProofs (disch:=omega) only[go_sem];refine ej l (fun i vs M=>vs=[.slice (l.map bG.row) c,.int .i64 stops,.int .i64 low,.int .i64 high,.int .i64 i]/\M=[]/\∀j,j<i->E0 l stops low high j) ⟨rfl,rfl,fun j ap=>absurd ap (e8 _)⟩ ?_ ?_;rotate_left
 . rintro vs M ⟨rfl,rfl,H⟩
   simp-implicitDefEqProofs (disch:=omega) only[go_sem,db];exact fF.ok ⟨by omega,by omega,fun i s ak=>H i (bo.1 ak).1 s ak⟩
 rintro i s vs M ak hi aw ⟨rfl,rfl,H⟩;simp-implicitDefEqProofs (disch:=omega) only[go_sem,aw,ak,bG.row];refine a5 (fun h=>?_) (fun aT=>?_)
 . simp-implicitDefEqProofs (disch:=omega) only[go_sem]
   exact fF.err _ (by omega)
 simp-implicitDefEqProofs (disch:=omega) only[go_sem];refine a5 (fun h=>?_) (fun a2=>?_)
 . simp-implicitDefEqProofs (disch:=omega) only[go_sem]
   exact fF.err _ (by omega)
 have last:(∀p,0<i->l[i -1]? =some p->p.stop≠s.stop/\p.cf<=s.cJ)->(low<=s.cJ/\s.cJ<=s.cf/\s.cf<=high)->∀j,j<i+1->E0 l stops low high j:=fun bI ce j ap=>by
  rcases ju.1 ap with h|h
  . exact H j h
  . subst h
    intro c ar;rw[ak] at ar;cases ar;exact⟨⟨by omega,by omega⟩,ce,bI⟩
 simp-implicitDefEqProofs (disch:=omega) only[go_sem];refine a5 (fun af=>?_) (fun af=>?_);rotate_left
 . have zO:i=0:=by omega
   simp-implicitDefEqProofs (disch:=omega) only[go_sem];refine a5 (fun h=>?_) (fun bJ=>?_)
   . simp-implicitDefEqProofs (disch:=omega) only[go_sem]
     exact fF.err _ (by omega)
   simp-implicitDefEqProofs (disch:=omega) only[go_sem];refine a5 (fun h=>?_) (fun c8=>?_)
   . simp-implicitDefEqProofs (disch:=omega) only[go_sem]
     exact fF.err _ (by omega)
   simp-implicitDefEqProofs (disch:=omega) only[go_sem];refine a5 (fun h=>?_) (fun eI=>?_)
   . simp-implicitDefEqProofs (disch:=omega) only[go_sem]
     exact fF.err _ (by omega)
   simp-implicitDefEqProofs (disch:=omega) only[go_sem];refine a5 (fun h=>?_) (fun eZ=>?_)
   . omega
   simp-implicitDefEqProofs (disch:=omega) only[go_sem];exact dJ hi rfl ⟨rfl,rfl,last (fun p h=>by omega) ⟨by omega,by omega,by omega⟩⟩
 obtain⟨p,ay⟩:∃p,l[i -1]? =some p:=⟨l[i -1],by simp⟩;have vq:((i:Int) -1).toNat=i -1:=by omega
 have mE:0<=(i:Int) -1:=by omega
 have hw:IntKind.i64.wrap ((i:Int) -1)=(i:Int) -1:=by rw[jG];omega
 have Dp:((i:Int) -1)=((i -1:Nat):Int):=by omega
 simp-implicitDefEqProofs (disch:=omega) only[go_sem,Dp,ay,bG.row];refine a5 (fun h=>?_) (fun bJ=>?_)
 . simp-implicitDefEqProofs (disch:=omega) only[go_sem]
   exact fF.err _ (by omega)
 simp-implicitDefEqProofs (disch:=omega) only[go_sem];refine a5 (fun h=>?_) (fun c8=>?_)
 . simp-implicitDefEqProofs (disch:=omega) only[go_sem]
   exact fF.err _ (by omega)
 simp-implicitDefEqProofs (disch:=omega) only[go_sem];refine a5 (fun h=>?_) (fun eI=>?_)
 . simp-implicitDefEqProofs (disch:=omega) only[go_sem]
   exact fF.err _ (by omega)
 simp-implicitDefEqProofs (disch:=omega) only[go_sem];refine a5 (fun h=>?_) (fun eZ=>?_)
 . simp-implicitDefEqProofs (disch:=omega) only[go_sem]
   exact fF.err _ (by omega)
 simp-implicitDefEqProofs (disch:=omega) only[go_sem];refine a5 (fun h=>?_) (fun iI=>?_);rotate_left
 . omega
 simp-implicitDefEqProofs (disch:=omega) only[go_sem,Dp,ay,bG.row];refine a5 (fun h=>?_) (fun lH=>?_)
 . simp-implicitDefEqProofs (disch:=omega) only[go_sem]
   exact fF.err _ (by omega)
 simp-implicitDefEqProofs (disch:=omega) only[go_sem];refine dJ hi rfl ⟨rfl,rfl,last (fun q h aG=>?_) ⟨by omega,by omega,by omega⟩⟩;rw[ay] at aG;cases aG;exact⟨bJ,by omega⟩
theorem aN6(n:Net)(i:Nat)(r:bM)(aK:n.wf)(an:n.runs[i]? =some r):bT au JD [.agg n.row,.int .i64 i] (fF (Lc n i)):=by
 have hm:maxLen=9223372036854775807:=by rfl
 have pz:=aK.runs.1 r (dQ an);have km:=(bo.1 an).1;have om:=aK.runs.2;refine bP aGF (by simp[Hk]) ?_;simp-implicitDefEqProofs (disch:=omega) only[go_sem,Hk,Net.row,an,bM.row];first|refine b1 (uW r.id pz.2.2.2.1) ?_|refine bV (uW r.id pz.2.2.2.1) ?_
 simp-implicitDefEqProofs (disch:=omega) only[go_sem];refine ck (fun aT=>?_) (fun aT=>?_);rotate_left
 . simp-implicitDefEqProofs (disch:=omega) only[go_sem]
   exact fF.err _ (by omega)
 simp-implicitDefEqProofs (disch:=omega) only[go_sem];refine a5 (fun h=>?_) (fun a2=>?_)
 . simp-implicitDefEqProofs (disch:=omega) only[go_sem]
   exact fF.err _ (by omega)
 simp-implicitDefEqProofs (disch:=omega) only[go_sem];refine a5 (fun h=>?_) (fun bJ=>?_)
 . simp-implicitDefEqProofs (disch:=omega) only[go_sem]
   exact fF.err _ (by omega)
 simp-implicitDefEqProofs (disch:=omega) only[go_sem];first|refine b1 (gn _ _ _) ?_|refine bV (gn _ _ _) ?_
 simp-implicitDefEqProofs (disch:=omega) only[go_sem];refine ck (fun c8=>?_) (fun c8=>?_);rotate_left
 . simp-implicitDefEqProofs (disch:=omega) only[go_sem]
   exact fF.err _ (by omega)
 simp-implicitDefEqProofs (disch:=omega) only[go_sem];refine a5 (fun h=>?_) (fun eI=>?_)
 . simp-implicitDefEqProofs (disch:=omega) only[go_sem]
   exact fF.err _ (by omega)
 simp-implicitDefEqProofs (disch:=omega) only[go_sem];refine a5 (fun h=>?_) (fun eZ=>?_)
 . simp-implicitDefEqProofs (disch:=omega) only[go_sem]
   exact fF.err _ (by omega)
 simp-implicitDefEqProofs (disch:=omega) only[go_sem];refine fw (aNV r.calls r.tag n.stops.length 0 3155932800 pz.2.2.2.2.2.1 pz.2.2.2.2.2.2) ?_;rintro v ⟨e,rfl,MR⟩;simp-implicitDefEqProofs (disch:=omega) only[go_sem];refine a5 (fun h=>?_) (fun iI=>?_)
 . have he:e=0:=by omega
   subst he;simp-implicitDefEqProofs (disch:=omega) only[go_sem];refine ge i (fun k vs M=>vs=[.int .i64 i,.ptr 0 0,.ptr 1 0,.int .i64 k]/\M=[.box n.row,.box r.row]/\∀(j:Nat)(o:bM),j<k->n.runs[j]? =some o->o.key≠r.key) ⟨rfl,rfl,fun j s ap=>absurd ap (e8 _)⟩ ?_ ?_;rotate_left
   . rintro vs M ⟨rfl,rfl,H⟩
     simp-implicitDefEqProofs (disch:=omega) only[go_sem,db];refine fF.ok fun fO jY=>?_;rw[an] at jY;cases jY;exact⟨aT,by omega,by omega,within_iff.1 c8,⟨by omega,by omega⟩,MR rfl,H⟩
   rintro k vs M ao fi ⟨rfl,rfl,H⟩;obtain⟨o,aA⟩:∃o,n.runs[k]? =some o:=⟨n.runs[k],by simp⟩;have last:o.key≠r.key->∀(j:Nat)(x:bM),j<k+1->n.runs[j]? =some x->x.key≠r.key:=fun cD j x ap ad=>by
    rcases ju.1 ap with h|h
    . exact H j x h ad
    . subst h;rw[aA] at ad;cases ad;exact cD
   simp-implicitDefEqProofs (disch:=omega) only[go_sem,fi,aA,Net.row,bM.row];refine a5 (fun bW=>?_) (fun bW=>?_);rotate_left
   . simp-implicitDefEqProofs (disch:=omega) only[go_sem]
     exact dJ ao rfl ⟨rfl,rfl,last fun e=>bW (congrArg (·.1) e)⟩
   simp-implicitDefEqProofs (disch:=omega) only[go_sem];refine a5 (fun b8=>?_) (fun b8=>?_);rotate_left
   . simp-implicitDefEqProofs (disch:=omega) only[go_sem]
     exact dJ ao rfl ⟨rfl,rfl,last fun e=>b8 (congrArg (·.2.1) e)⟩
   simp-implicitDefEqProofs (disch:=omega) only[go_sem];refine a5 (fun cN=>?_) (fun cN=>?_);rotate_left
   . simp-implicitDefEqProofs (disch:=omega) only[go_sem]
     exact dJ ao rfl ⟨rfl,rfl,last fun e=>cN (congrArg (·.2.2) e)⟩
   simp-implicitDefEqProofs (disch:=omega) only[go_sem];exact fF.err _ (by omega)
 simp-implicitDefEqProofs (disch:=omega) only[go_sem];exact fF.err _ (by omega)
end Go.aL.C
