-- Written by mp.py, our own printer (wip/mp.py), and made shorter by wip/mp_shrink*.py.
import Derived.Test.YtgpkdbnikcghgaaVAll
import Derived.Test.YtgpkdbnikcghgaaMDx0
namespace Go.Proofs.Ytgpkdbnikcghgaa.MD
open Go.RowKit Go.Proofs.YtgpkdbnikcghgaaW.PrintWords Go.Proofs.YtgpkdbnikcghgaaW.PrintLast Go.Proofs.YtgpkdbnikcghgaaW.PrintMore Go.Proofs.Ytgpkdbnikcghgaa.MWords
attribute [local go_sem] max2_int min2_int max_two min_two max_three min_three max_four min_four
set_option linter.unusedVariables false
set_option linter.unusedSimpArgs false
def MC.f  : Option ((List (aj)) × (List (ah)) × (List (ah)) × Int):=some (([]:List (aj)),([]:List (ah)),([]:List (ah)),1)
set_option maxHeartbeats 8000000 in
set_option maxRecDepth 100000 in
theorem MC.calls  (r1:List (aj)) (r2:List (ah)) (r3:List (ah)) (r4:Int) (w:World) (h:MC.f  = some (r1,r2,r3,r4)) :
 Calls Try.prog 108 #[] w fun e w'=>∃dm dK dL:Value,e = .returned (.agg #[dm,dK,dL,.int .i64 r4])∧Kd.S bu 80 w' w.heap.size (fun _=>True) dm r1∧Kd.R ay 63 w' w.heap.size (fun k_=>some k_≠(dL:Value).ownBlock) dK r2∧Kd.R ay 63 w' w.heap.size (fun k_=>some k_≠(dK:Value).ownBlock) dL r3∧Below w.heap.size w w':=by
 have l3:=Try.underlying30;have HB:=J (Below.refl w.heap.size w);have H:(some (([]:List (aj)),([]:List (ah)),([]:List (ah)),1))=some (r1,r2,r3,r4):=h;clear h;simp only[Option.some.injEq,Prod.mk.injEq]at H;obtain⟨rfl,rfl,rfl,rfl⟩:=H;go_enter Try.func108,Try.ntmps108;go_wp2_with (first|((with_reducible refine bh (N:=0) rfl ?_);refine bw 0 #[.slice none 0 0,.slice none 0 0,.slice none 0 0,.int .i64 0] 30 ?_;intro ajg hg w1 hbox hb;have VP:=J (hbox);have aqI:=mG hg (mH HB.1);have aeD:=mG hg (mH HB.1);replace HB:=J (aK (mH HB.1) hb);clear hb hbox hg;obtain⟨atB,atC,atD,atE,awp,awq,awr,aws⟩:=aY VP.1));refine bodyPost_ret (results_cell_row rfl _ _ ajg 30 #[.slice none 0 0,.slice none 0 0,.slice none 0 0,.int .i64 1] (0,0) _ rfl (by refine mK ?_;refine aC (cs:=#[.slice none 0 0,.slice none 0 0,.slice none 0 0,.int .i64 0]) ?_ 3 _ rfl;refine mK ?_;refine aC (cs:=#[.slice none 0 0,.slice none 0 0,.slice none 0 0,.int .i64 0]) ?_ 2 _ rfl;refine mK ?_;refine aC (cs:=#[.slice none 0 0,.slice none 0 0,.slice none 0 0,.int .i64 0]) ?_ 1 _ rfl;refine mK ?_;refine aC (cs:=#[.slice none 0 0,.slice none 0 0,.slice none 0 0,.int .i64 0]) ?_ 0 _ rfl;refine mK ?_;exact VP.1) Try.underlying30 rfl (by kernel_rfl)) rfl ?_;exact⟨_,_,_,cW,by first|exact Kd.vB _ _ _ _ _|exact Kd.N_nil _ _ _ _ _|exact Kd.V_nil _ _ _ _ _|exact Kd.Q_nil _ _ _ _ _|exact Kd.lq _ _ _ _ _,by first|exact Kd.lq _ _ _ _ _|exact Kd.N_nil _ _ _ _ _|exact Kd.V_nil _ _ _ _ _|exact Kd.Q_nil _ _ _ _ _|exact Kd.vB _ _ _ _ _,by first|exact Kd.lq _ _ _ _ _|exact Kd.N_nil _ _ _ _ _|exact Kd.V_nil _ _ _ _ _|exact Kd.Q_nil _ _ _ _ _|exact Kd.vB _ _ _ _ _,(aM HB.1 aeD.1)⟩
end Go.Proofs.Ytgpkdbnikcghgaa.MD
