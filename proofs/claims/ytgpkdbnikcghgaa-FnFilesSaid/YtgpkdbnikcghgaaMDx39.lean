-- Written by mp.py, our own printer (wip/mp.py), and made shorter by wip/mp_shrink*.py.
import Derived.Test.YtgpkdbnikcghgaaVAll
import Derived.Test.YtgpkdbnikcghgaaMDx0
namespace Go.Proofs.Ytgpkdbnikcghgaa.MD
open Go.RowKit Go.Proofs.YtgpkdbnikcghgaaW.PrintWords Go.Proofs.YtgpkdbnikcghgaaW.PrintLast Go.Proofs.YtgpkdbnikcghgaaW.PrintMore Go.Proofs.Ytgpkdbnikcghgaa.MWords
attribute [local go_sem] max2_int min2_int max_two min_two max_three min_three max_four min_four
set_option linter.unusedVariables false
set_option linter.unusedSimpArgs false
def Nd.f  : Option ((List (aj)) × (List (ah)) × (List (ah)) × Int):=some (([]:List (aj)),([]:List (ah)),([]:List (ah)),1)
set_option maxHeartbeats 8000000 in
set_option maxRecDepth 100000 in
theorem Nd.calls  (r1:List (aj)) (r2:List (ah)) (r3:List (ah)) (r4:Int) (w:World) (h:Nd.f  = some (r1,r2,r3,r4)) :
 Calls Try.prog 108 #[] w fun e w'=>∃df dv dw:Value,e = .returned (.agg #[df,dv,dw,.int .i64 r4])∧Kd.S bj 80 w' w.heap.size (fun _=>True) df r1∧Kd.R ay 63 w' w.heap.size (fun k_=>some k_≠(dw:Value).ownBlock) dv r2∧Kd.R ay 63 w' w.heap.size (fun k_=>some k_≠(dv:Value).ownBlock) dw r3∧Below w.heap.size w w':=by
 have kx:=Try.underlying30;have HB:=J (Below.refl w.heap.size w);have H:(some (([]:List (aj)),([]:List (ah)),([]:List (ah)),1))=some (r1,r2,r3,r4):=h;clear h;simp only[Option.some.injEq,Prod.mk.injEq]at H;obtain⟨rfl,rfl,rfl,rfl⟩:=H;go_enter Try.func108,Try.ntmps108;go_wp2_with (first|((with_reducible refine bk (N:=0) rfl ?_);refine bF 0 #[.slice none 0 0,.slice none 0 0,.slice none 0 0,.int .i64 0] 30 ?_;intro ajZ hg w1 hbox hb;have WC:=J (hbox);have aro:=mG hg (mH HB.1);have aff:=mG hg (mH HB.1);replace HB:=J (aK (mH HB.1) hb);clear hb hbox hg;obtain⟨auo,aup,auq,aur,axa,axb,axc,axd⟩:=aX WC.1));refine bodyPost_ret (results_cell_row rfl _ _ ajZ 30 #[.slice none 0 0,.slice none 0 0,.slice none 0 0,.int .i64 1] (0,0) _ rfl (by refine mK ?_;refine aC (cs:=#[.slice none 0 0,.slice none 0 0,.slice none 0 0,.int .i64 0]) ?_ 3 _ rfl;refine mK ?_;refine aC (cs:=#[.slice none 0 0,.slice none 0 0,.slice none 0 0,.int .i64 0]) ?_ 2 _ rfl;refine mK ?_;refine aC (cs:=#[.slice none 0 0,.slice none 0 0,.slice none 0 0,.int .i64 0]) ?_ 1 _ rfl;refine mK ?_;refine aC (cs:=#[.slice none 0 0,.slice none 0 0,.slice none 0 0,.int .i64 0]) ?_ 0 _ rfl;refine mK ?_;exact WC.1) Try.underlying30 rfl (by kernel_rfl)) rfl ?_;exact⟨_,_,_,de,by first|exact Kd.xl _ _ _ _ _|exact Kd.N_nil _ _ _ _ _|exact Kd.V_nil _ _ _ _ _|exact Kd.Q_nil _ _ _ _ _|exact Kd.lE _ _ _ _ _,by first|exact Kd.lE _ _ _ _ _|exact Kd.N_nil _ _ _ _ _|exact Kd.V_nil _ _ _ _ _|exact Kd.Q_nil _ _ _ _ _|exact Kd.xl _ _ _ _ _,by first|exact Kd.lE _ _ _ _ _|exact Kd.N_nil _ _ _ _ _|exact Kd.V_nil _ _ _ _ _|exact Kd.Q_nil _ _ _ _ _|exact Kd.xl _ _ _ _ _,(aM HB.1 aff.1)⟩
end Go.Proofs.Ytgpkdbnikcghgaa.MD
