/- The statement TopAgreement of layer transittop: for every input the law returns true, and each argument reads afterwards as before. No condition. -/
import Derived.Test.YtbndjigedmpplaaGreatRows
import Derived.ProofKit
import Derived.Test.YtbndjigedmpplaaGreatG5
open Bool renaming false->ad,true->U
open Option renaming none->ag
namespace Go.Proofs.YtbndjigedmpplaaGreat
open Go.ao Go.ao.C
theorem Tryz.aaf:ownKnob Go.Proofs.Tryz.prog.godebug=ag:=by kernel_rfl
theorem Tryz.Yj:laidOutB Go.Proofs.Tryz.prog=U:=by kernel_rfl
theorem Yn(xs:List V)(h:qq [.agg zG,.agg zH] xs):bx aH 3 xs [] (λv _=>v=.bool U):=by obtain⟨_,_,rfl,⟨_,rfl,vm⟩,aD⟩:=IK h;obtain⟨_,_,rfl,⟨_,rfl,vo⟩,ba⟩:=IK aD;cases XC ba;obtain⟨n,rfl,IS⟩:=aa8 vm;obtain⟨q,rfl⟩:=aba vo;exact bx.mono (Pw n q IS Qr) λv _ hs=>hs.1
set_option maxRecDepth 100000 in
theorem YJ(os:Os)(BJ:os.Started)(H:Type)(enc:TypeId×Value->H):
 ReturnsInHanded {} Tryz.checked os 3 .any (Rows.topAgreementSpec.pre6 enc Tryz.prog Tryz.f3 Rows.topAgreementRow.domain ad) (Rows.topAgreementSpec.post enc Tryz.prog Tryz.f3 ad U ad ad):=by
 refine YI (C:=Tryz.checked) (pts:=[.agg zG,.agg zH]) (tb:=Tryz.f3.resultTypes[0]!) Tryz.aaf Tryz.Yj BJ (by kernel_rfl) Tryz.func3 rfl (λTd XD=>?_) (by kernel_rfl) (by kernel_rfl) (by kernel_rfl) (by kernel_rfl)
  (ChangeSpec.witness6 (enc:=enc) (C:=Tryz.checked) ad ⟨#[],#[.agg #[.slice ag 0 0,.slice ag 0 0,.slice ag 0 0,.slice ag 0 0,.slice ag 0 0,.slice ag 0 0,.int .i64 0,.int .i64 0,.int .i64 0],.agg #[.int .i64 0,.int .i64 0,.int .i64 0,.bool ad,.int .i64 0,.int .i64 0,.bool ad,.bool ad,.int .i64 0,.bool ad]],[]⟩ 8 (by kernel_rfl) (by kernel_rfl) (by kernel_rfl) (by kernel_rfl)) Yn;match Td,XD with
 |[aeI,aeJ],_=>rfl
theorem TopAgreement_holds:Rows.TopAgreementSaid:=
 OpenClaim.holds_of_wide 3 Tryz.f3 rfl rfl rfl rfl rfl rfl rfl ⟨rfl,rfl,rfl,rfl,rfl⟩ rfl rfl rfl rfl rfl (by kernel_rfl) Tryz.func3 (by kernel_rfl)
  (of_decide_eq_true (by kernel_rfl)) (by unfold Func.isWrapper;first|(rw[aF (by decide+kernel)];kernel_rfl)|(rw[ax (by decide+kernel)];exact⟨rfl,rfl⟩))
  (λos BJ H enc _=>YJ os BJ H enc)
end Go.Proofs.YtbndjigedmpplaaGreat
