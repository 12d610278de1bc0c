/- What FnFiles says of disks in plain lists: a file that was made, written and made sure. -/
import Derived.Test.YtgpkdbnikcghgaaMPR
set_option linter.unusedVariables false
set_option linter.unusedSimpArgs false
namespace Go.Proofs.Ytgpkdbnikcghgaa.MPD
open Go.RowKit Go.Proofs.Ytgpkdbnikcghgaa.MD Go.Proofs.YtgpkdbnikcghgaaW.PrintWords Go.Proofs.YtgpkdbnikcghgaaW.PrintLast Go.Proofs.YtgpkdbnikcghgaaW.PrintMore
def tC (r:List eh × List gD × List gD × Int):ob:=⟨r.1,r.2.1,r.2.2.1,r.2.2.2⟩
structure zd (nm:ByteArray) (e:gD) (bd:List Int) (s:Int) (m:Nat) (d:ob):Prop where
 ok:FF d
 he:e ∈ d.f1
 hn:e.f0=nm
 hx:∃x ∈ d.f0,x.f0=e.f1∧x.f1=bd∧x.f2=s
 tt:gl d.f0≤m
section
variable {nm:ByteArray} {e:gD} {bd b:List Int} {s:Int} {m:Nat} {d:ob}
theorem apg {P:ByteArray→Prop} (h:Gd P m d) (ho:ir nm=true) (hn:¬P nm) {r:lQ} (hr:pS d.f0 d.f1 d.f2 d.f3 nm=r) (hc:r.2.2.2.2=0):zd nm ⟨nm,d.f3⟩ [] 0 m (ix r)∧∀e ∈ (ix r).f2,e.f0≠nm:=by
 subst hr;have h0:∀e ∈ d.f1,e.f0≠nm:=fun e he hc=>hn (hc▸h.g1 e he)
 rw[aiP h.ok ho h0]at hc ⊢
 rcases DF d.f0 d.f1 d.f2 d.f3 (d.f0++[(⟨d.f3,[],0⟩:eh)]) (ky (⟨nm,d.f3⟩:gD) d.f1) d.f2 (d.f3+1) with ⟨hk,e⟩|⟨_,e⟩
 ·rw[e];have hm:(⟨nm,d.f3⟩:gD) ∈ ky (⟨nm,d.f3⟩:gD) d.f1:=(I5 _ _).mem_iff.2 (by simp);refine⟨⟨hk,hm,rfl,⟨⟨d.f3,[],0⟩,?_,rfl,rfl,rfl⟩,?_⟩,fun e he hc=>hn (hc▸h.g2 e he)⟩
  ·show _ ∈ kept _ _ _;rw[yn];refine List.mem_filter.2 ⟨by simp,?_⟩;rw[Bool.or_eq_true,sI];exact Or.inl ⟨_,hm,rfl⟩
  ·show gl (kept _ _ _)≤m;rw[yn];refine Nat.le_trans (Es _ _) ?_;rw[aea];simpa[gl] using h.tt
 ·rw[e]at hc;exact absurd (show (4:Int)=0 from hc) (by decide)
theorem ac7 (h:zd nm e bd s m d) (hm:m+b.length≤60000) {r:lQ} (hr:sx d.f0 d.f1 d.f2 d.f3 nm b=r):zd nm e (bd++b) s (m+b.length) (ix r)∧(ix r).f2=d.f2:=by
 subst hr;have ht:=ad9 h.ok.i1 e.f1 b;have h1:=h.tt;rw[Yx h.ok h.he h.hn,if_pos (by omega)];obtain⟨x,hx,e1,e2,e3⟩:=h.hx;refine⟨⟨TX h.ok e.f1 b (by omega),h.he,h.hn,⟨grow e.f1 b x,List.mem_map.2 ⟨x,hx,rfl⟩,?_⟩,by show gl (d.f0.map _)≤_;omega⟩,rfl⟩;unfold grow;rw[if_pos e1];exact⟨e1,by rw[←e2],e3⟩
theorem apl (h:zd nm e bd s m d) {r:lQ} (hr:tA d.f0 d.f1 d.f2 d.f3 nm=r):zd nm e bd (bd.length:Int) m (ix r)∧(ix r).f2=d.f2:=by
 subst hr;rw[adG h.ok h.he h.hn];obtain⟨x,hx,e1,e2,e3⟩:=h.hx;refine⟨⟨ac5 h.ok e.f1,h.he,h.hn,⟨sure e.f1 x,List.mem_map.2 ⟨x,hx,rfl⟩,?_⟩,?_⟩,rfl⟩
 ·unfold sure;rw[if_pos e1];exact⟨e1,e2,by rw[←e2]⟩
 ·show gl (d.f0.map _)≤m;rw[Vo _ _ (fun x _=>by unfold sure;split<;>rfl)];exact h.tt
theorem apm (h:zd nm e bd s m d) {r:lQ} (hr:uU d.f0 d.f1 d.f2 d.f3=r):zd nm e bd s m (ix r)∧e ∈ (ix r).f2:=by
 subst hr;obtain⟨e1,hk⟩:=adF h.ok;rw[e1];obtain⟨x,hx,e2,e3⟩:=h.hx;refine⟨⟨hk,h.he,h.hn,⟨x,?_,e2,e3⟩,?_⟩,h.he⟩
 ·show x ∈ kept _ _ _;rw[yn];refine List.mem_filter.2 ⟨hx,?_⟩;rw[Bool.or_self,sI];exact⟨e,h.he,e2.symm⟩
 ·show gl (kept _ _ _)≤m;rw[yn];exact Nat.le_trans (Es _ _) h.tt
theorem ajV (h:FF d) (hn:∀e ∈ d.f2,e.f0≠nm) {keep:Int} (hk:0≤keep) {r:List eh × List gD × List gD × Int} (hr:pt (bS d.f0 d.f1 d.f2 d.f3) d.f0 d.f1 d.f2 d.f3 keep=r) {d':ob} (hd:d'=tC r):FF d'∧sy (bS d'.f0 d'.f1 d'.f2 d'.f3) d'.f0 d'.f1 nm=([],false):=by
 subst hd;subst hr;rw[Q7 h hk];exact⟨MT h hk,ah6 hn⟩
theorem ajU (h:zd nm e bd s m d) (h2:e ∈ d.f2) {keep:Int} (hk:0≤keep) {r:List eh × List gD × List gD × Int} (hr:pt (bS d.f0 d.f1 d.f2 d.f3) d.f0 d.f1 d.f2 d.f3 keep=r) {d':ob} (hd:d'=tC r):FF d'∧∃n,s.toNat≤n∧sy (bS d'.f0 d'.f1 d'.f2 d'.f3) d'.f0 d'.f1 nm=(bd.take n,true):=by
 subst hd;subst hr;rw[Q7 h.ok hk];obtain⟨x,hx,e1,e2,e3⟩:=h.hx;have hs:=h.ok.i1.2 x hx;obtain⟨g0,_,n,hn,g1⟩:=Gl hk (x:=x) ⟨hs.2.2.1,hs.2.2.2.1⟩;refine⟨MT h.ok hk,n,by rw[←e3];exact hn,?_⟩;have BF:kO keep x ∈ (d.f0.filter (fun x=>named d.f2 x.f0)).map (kO keep):=List.mem_map.2 ⟨x,List.mem_filter.2 ⟨hx,sI.2 ⟨e,h2,e1.symm⟩⟩,rfl⟩;rw[show (tC ((d.f0.filter (fun x=>named d.f2 x.f0)).map (kO keep),d.f2,d.f2,d.f3))=(⟨(d.f0.filter (fun x=>named d.f2 x.f0)).map (kO keep),d.f2,d.f2,d.f3⟩:ob) from rfl];rw[ah5 (MT h.ok hk) h2 h.hn BF (g0.trans e1),g1,e2]
end
def own:ByteArray:=⟨#[111,119,110]⟩
theorem BQ:ir own=true∧own ∉ xB∧own.size≤9223372036854775807:=by
 refine⟨by decide +kernel,fun h=>?_,by decide +kernel⟩;simp only[xB,List.mem_cons,List.not_mem_nil,or_false]at h
 rcases h with h|h|h|h|h|h<;>exact absurd (congrArg ByteArray.data h) (by decide +kernel)
end Go.Proofs.Ytgpkdbnikcghgaa.MPD
