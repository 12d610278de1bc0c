/- The law FnExactMend: for every input it returns true, and its arguments read as they did: the given statement FnExactMendSaid, with no condition of its own. Written after mp.py's rows, with the walk by hand. -/
import Derived.Test.YtingkpnoiekliaaGreatRows
import Derived.Test.YtingkpnoiekliaaGreatMWY
import Derived.Test.YtingkpnoiekliaaGreatVAll
import Derived.WalkKit
import Derived.ProofKit
import Derived.OpenShut
import Derived.ShutString
import Derived.ChangeOld
import Derived.Below
import Derived.SizedLaws
namespace Go.Proofs.YtingkpnoiekliaaGreat.fnExactMend
open Go.ChangeShapes Go.WideShapes Go.ChangeAt Go.RowKit
open Go.ChangeMaps (open_string shut_string)
open Go.Proofs.YtingkpnoiekliaaGreat.MOpens Go.Proofs.YtingkpnoiekliaaGreat.MZ
set_option linter.unusedVariables false
theorem own:ownKnob Tryz.prog.godebug=none:=by kernel_rfl
theorem laidOut:laidOutB Tryz.prog=true:=by kernel_rfl
def Wi (x:jh):Prop:=(Lit.int .i64 x.f0).wf=true∧(x.f1.length≤maxLen∧∀n ∈ x.f1,(Lit.int .u8 n).wf=true)∧(Lit.int .i64 x.f2).wf=true
set_option maxRecDepth 100000 in
theorem ame:fS Tryz.prog 103 xa Wi:=fS.tm (fun x:jh=>(x.f0,x.f1,x.f2)) (fun a=>(⟨a.1,a.2.1,a.2.2⟩:jh)) (fS.struct Tryz.underlying103 (by kernel_rfl) (ow.cons rfl (by kernel_rfl) (fS.int Tryz.underlying3) (ow.cons rfl (by kernel_rfl) (fS.slice Tryz.underlying22 (by kernel_rfl) (fS.int Tryz.underlying5)) (ow.last rfl (by kernel_rfl) (fS.int Tryz.underlying3)) rfl) rfl)) (fun _=>rfl) (fun _ h=>h)
def We (x:hU):Prop:=x.f0.size≤maxLen∧(Lit.int .i64 x.f1).wf=true
set_option maxRecDepth 100000 in
theorem Zp:fS Tryz.prog 105 sv We:=fS.tm (fun x:hU=>(x.f0,x.f1)) (fun a=>(⟨a.1,a.2⟩:hU)) (fS.struct Tryz.underlying105 (by kernel_rfl) (ow.cons rfl (by kernel_rfl) (fS.string Tryz.underlying9) (ow.last rfl (by kernel_rfl) (fS.int Tryz.underlying3)) rfl)) (fun _=>rfl) (fun _ h=>h)
set_option maxRecDepth 100000 in
theorem lifted (os:Os) (started:os.Started) (H:Type) (enc:TypeId × Value→H) :
 ReturnsInHanded {} Tryz.checked os 4 .any (Rows.fnExactMendSpec.pre6 enc Tryz.prog Tryz.f4 Rows.fnExactMendRow.domain false) (Rows.fnExactMendSpec.post enc Tryz.prog Tryz.f4 false true false false):=by
 refine returnsInHanded_of_change_sized (C:=Tryz.checked) own started (by kernel_rfl) Tryz.func4
  (ChangeSpec.witness6 (enc:=enc) (C:=Tryz.checked) false ⟨#[],#[.agg #[.slice none 0 0,.slice none 0 0,.slice none 0 0,.int .i64 0],.string ByteArray.empty],[]⟩ 8 (by kernel_rfl) (by kernel_rfl) (by kernel_rfl) (by kernel_rfl)) ?_
 intro W base args ds gs before X9 hW hcnd X4 _;have hsz:(DataW.weightsEach Tryz.prog (Tryz.f4.params.toList++Rows.fnExactMendSpec.plain.varTypes Tryz.prog) (ds++gs)).all (·≤reachBytes)=true:=X4;have hval:∀(j:Nat) t v,Tryz.f4.params[j]? = some t→args[j]? = some v→Value.okWide Tryz.prog W .any base t v:=X9;have hW':=hW;obtain⟨p,q,Wh,hV,rfl,hfz,hnd⟩:=hW;have hA:DataW.TrodAll enc Tryz.prog W 0 (fun _=>true) true Tryz.f4.params.toList args.toList ds p:=Wh;rw[Tryz.params4]at hA hval hsz;obtain⟨v0,vs0,d0,ds0,p0,q0,hargs,rfl,rfl,h0,r0⟩:=trodAll_cons hA;obtain⟨v1,vs1,d1,ds1,p1,q1,rfl,rfl,rfl,h1,r1⟩:=trodAll_cons r0;obtain⟨rfl,rfl,rfl⟩:=trodAll_nil r1;obtain rfl:args=#[v0,v1]:=by cases args;simp_all
 obtain⟨rfl,rfl⟩:=trodVars_none hV;obtain⟨Ey,rfl,_⟩:=okWide_struct Tryz.underlying44 (hval 0 44 v0 rfl rfl);have k0:=h0;have lt0:∀x ∈ p0,x.block<W.heap.size:=by obtain⟨m,hm⟩:=k0;exact DataW.trod_lt m _ _ _ hm
 obtain⟨x0,hK0,w0⟩:=fS.use (fS.struct Tryz.underlying44 (by kernel_rfl) (ow.cons rfl (by kernel_rfl) (fS.slice Tryz.underlying41 (by kernel_rfl) ame) (ow.cons rfl (by kernel_rfl) (fS.slice Tryz.underlying42 (by kernel_rfl) Zp) (ow.cons rfl (by kernel_rfl) (fS.slice Tryz.underlying42 (by kernel_rfl) Zp) (ow.last rfl (by kernel_rfl) (fS.int Tryz.underlying3)) rfl) rfl) rfl)) h0;obtain⟨_,_,e0,⟨A0,c0,rfl,U,g0⟩,⟨_,_,rfl,⟨A1,c1,rfl,l1,g1⟩,⟨_,_,rfl,⟨A2,c2,rfl,l2,g2⟩,rfl⟩⟩⟩:=hK0;obtain rfl:=aeN e0;obtain⟨x1,rfl,rfl,rfl,y1⟩:=open_string Tryz.underlying9 (hval 1 9 v1 rfl rfl) h1
 have w1:x1.size≤140737488351232:=by
  have z:=sized_string hsz (j:=1) (t:=9) rfl rfl;rw[Array.length_toList]at z;exact z
 clear Wh X9 X4 hsz;refine(ahc (x:=⟨x0.1,x0.2.1,x0.2.2.1,x0.2.2.2⟩) (nm:=x1) ⟨A0,c0,A1,c1,A2,c2,rfl,U,g0,l1,g1,l2,g2⟩ ⟨⟨w0.1.1,fun y hy=>(w0.1.2 y hy).2.1.1⟩,⟨w0.2.1.1,fun y hy=>(w0.2.1.2 y hy).1⟩,⟨w0.2.2.1.1,fun y hy=>(w0.2.2.1.2 y hy).1⟩,fun y hy=>aeZ (w0.1.2 y hy).2.1.2⟩ (by omega)).mono fun e W' ⟨he,aeU⟩=>?_
 have bel:=aeU;subst he;exact⟨_,rfl,_,_,_,[],_,[],hW',trodAll_mk1 (shut_bool Tryz.underlying4 _),(trodAll_cons_mk (Below.trod laidOut (by kernel_rfl) (of_decide_eq_true (by kernel_rfl)) k0 bel lt0) (trodAll_cons_mk (shut_string Tryz.underlying9 y1) trodAll_mk0)),rfl,bel.frame _,fun h=>by cases h⟩
theorem amf:Rows.fnExactMendRow.holds Tryz.pinned (OpenSpec.ofChange Rows.fnExactMendSpec):=
 OpenClaim.holds_of_wide 4 Tryz.f4 rfl rfl rfl rfl rfl rfl rfl ⟨rfl,rfl,rfl,rfl,rfl⟩ rfl rfl rfl rfl rfl (by kernel_rfl) Tryz.func4 (by kernel_rfl)
  (of_decide_eq_true (by kernel_rfl)) (by unfold Func.isWrapper;first|(rw[if_pos (by decide +kernel)];kernel_rfl)|(rw[if_neg (by decide +kernel)];exact⟨rfl,rfl⟩))
  (fun os started H enc _=>lifted os started H enc)
theorem proved:Rows.FnExactMendSaid:=amf
end Go.Proofs.YtingkpnoiekliaaGreat.fnExactMend
namespace Go.Proofs.YtingkpnoiekliaaGreat
theorem fnExactMend_holds:Rows.FnExactMendSaid:=fnExactMend.proved
#print axioms fnExactMend_holds
end Go.Proofs.YtingkpnoiekliaaGreat
