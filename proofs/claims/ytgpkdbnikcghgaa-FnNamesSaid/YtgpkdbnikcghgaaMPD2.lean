/- What Rename and Remove of the program answer, in plain lists. -/
import Derived.Test.YtgpkdbnikcghgaaMPD
import Derived.Test.YtgpkdbnikcghgaaMDx14
import Derived.Test.YtgpkdbnikcghgaaMDx44
import Derived.Test.YtgpkdbnikcghgaaMDx45
set_option linter.unusedVariables false
set_option linter.unusedSimpArgs false
namespace Go.Proofs.Ytgpkdbnikcghgaa.MPD
open Go.RowKit Go.Proofs.Ytgpkdbnikcghgaa.MD Go.Proofs.YtgpkdbnikcghgaaW.PrintWords Go.Proofs.YtgpkdbnikcghgaaW.PrintLast Go.Proofs.YtgpkdbnikcghgaaW.PrintMore
theorem S4 (ns:List ah) (nm:ByteArray) (h:ns.length≤1048576):Ev (fun k=>jU.f k ns nm) (gG ns nm):=by
 refine Ev.congr (fun k=>?_) (AQ (fun k out i=>jU.l0 k nm out ns (ns.length:Int) (i:Int)) ns.length _ _ (fun out=>out) (fun i out r hi ho hp h=>?_) (fun i out r hi ho hp h=>?_) (fun out ho=>?_))
 ·simp only[jU.f];rfl
 ·refine Ev.step (fun k=>?_) h;simp only[jU.l0];rw[if_pos (by omega),if_pos (by omega),if_pos (by omega),if_neg (by simpa using hp),if_pos (by omega),gO (n:=ns.length) hi (by omega)]
 ·refine Ev.step (fun k=>?_) h;simp only[jU.l0];rw[if_pos (by omega),if_pos (by omega),if_pos (by omega),if_pos (by simpa using hp),gO (n:=ns.length) hi (by omega)]
 ·refine Ev.ends (fun k=>?_);simp only[jU.l0];rw[if_neg (by omega)]
theorem an8 (ds:List aj) (ns ss:List ah) (nx:Int) (nm:ByteArray) (hn:nm.size≤9223372036854775807) (h:Small ds ns ss):Ev (fun k=>Ir.f k ds ns ss nx nm) (sm ds ns ss nx nm):=by
 unfold Ir.f;refine Ev.bind' (ab0 (uj.f nm) ds ns ss nx [nm] true (ds,gG ns nm,ss,nx,0) h (by simp) (fun x hx=>by rw[List.mem_singleton.1 hx];exact hn) (fun _=>by simp) (fun _ _ _=>⟨?_,fun _=>h.gG nm⟩)) ?_
 ·unfold uj.f;exact Ev.bind' (S4 ns nm h.h1) (Ev.now _)
 ·rw[ah5];unfold sm;simp only[if_true];exact Ev.now _
theorem an9 (ds:List aj) (ns ss:List ah) (nx:Int) (a b:ByteArray) (ha:a.size≤9223372036854775807) (hb:b.size≤9223372036854775807) (h:Small ds ns ss):Ev (fun k=>Is.f k ds ns ss nx a b) (rz ds ns ss nx a b):=by
 unfold Is.f;refine Ev.bind' (ab0 (lU.f a b) ds ns ss nx [a,b] true (if a.toList=b.toList then (ds,ns,ss,nx,0) else (ds,renamed ns a b,ss,nx,0)) h (by simp) (fun x hx=>?_) (fun _=>by simp) (fun hok hno _=>?_)) ?_
 ·rcases List.mem_cons.1 hx with rfl|hx
  ·exact ha
  ·rw[List.mem_singleton.1 hx];exact hb
 ·unfold lU.f;by_cases hab:a.toList=b.toList
  ·simp only[hab,if_true];exact⟨Ev.now _,fun _=>h⟩
  ·simp only[hab,if_false];refine⟨?_,fun _=>acE h hok hb⟩;have hr:=Qr (y3 hok).2.1;refine Ev.bind' (S3 ds ns ss nx a h.h1) ?_;refine Ev.bind' (S4 ns a h.h1) ?_;refine Ev.bind' (S4 (gG ns a) b (Nat.le_trans (zQ ns a) h.h1)) ?_;have l1:=zQ (gG ns a) b;have l2:=zQ ns a;have g0:(gG (gG ns a) b).length<5864062014805:=by have:=h.h1;omega
   have ep:bn.f (gG (gG ns a) b) b (jY ns a)=some (renamed ns a b):=by
    unfold bn.f renamed;rw[if_pos g0,aoN _ _ (UW b (UW a hr)) (UU _ b)]
   simp only[ep,Option.bind_some];exact Ev.now _
 ·have e0:l8 ByteArray.empty [a,b] 0=a:=rfl;unfold FH IF rz gf;rw[e0,List.all_cons,List.all_cons,List.all_nil,Bool.and_true,Bool.true_and];cases hok:b8 ds ns ss nx
  ·simp only[Bool.false_and,Bool.false_eq_true,if_false,true_or,if_true];exact Ev.now _
  simp only[Bool.true_and,if_true];cases hno:ja a
  ·simp only[Bool.false_and,Bool.false_eq_true,if_false,true_or,if_true];exact Ev.now _
  simp only[Bool.true_and,if_true];cases hnb:ja b
  ·simp only[Bool.false_eq_true,if_false,or_true,if_true];exact Ev.now _
  simp only[if_true,Bool.true_eq_false,or_false]
  rcases DH hok a with ⟨c1,c2⟩|⟨j,m,c1,c2,c3,c4,c5,c6,_⟩
  ·have e2:nameAt ns a<0:=by omega
   simp only[e2,c2,if_true,BEq.rfl,show ¬((2:Int)=1) by decide,show ¬((2:Int)=0) by decide,if_false];exact Ev.now _
  ·have e2:¬nameAt ns a<0:=by omega
   simp only[e2,if_false,beq_eq_false_iff_ne.2 c4,Bool.false_eq_true,show ¬((0:Int)=1) by decide,if_true];by_cases hab:a.toList=b.toList
   ·simp only[hab,if_true]
    have hk:mN ds ns ss nx ds ns ss nx=(ds,ns,ss,nx,0):=by
     unfold mN;rw[aol (y3 hok).1,if_pos hok]
    rw[hk];exact Ev.now _
   ·simp only[hab,if_false,if_true];exact Ev.now _
end Go.Proofs.Ytgpkdbnikcghgaa.MPD
