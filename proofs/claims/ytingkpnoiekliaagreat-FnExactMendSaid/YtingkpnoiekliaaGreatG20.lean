/- Walks and plain laws, put together: no condition of their own. -/
import Derived.Test.YtingkpnoiekliaaGreatG19
import Derived.Test.YtingkpnoiekliaaGreatMZx17
import Derived.Test.YtingkpnoiekliaaGreatG17
section
set_option linter.unusedVariables false
set_option linter.unusedSimpArgs false
namespace Go.Proofs.YtingkpnoiekliaaGreat.MZ
open Go.RowKit Go.Proofs.YtingkpnoiekliaaGreat.MZ Go.Proofs.YtingkpnoiekliaaGreatW.PrintWords Go.Proofs.YtingkpnoiekliaaGreatW.PrintLast Go.Proofs.YtingkpnoiekliaaGreatW.PrintMore
theorem LL (n:Int) (h0:0≤n) (h1:n<2 ^ 63):IntKind.i64.wrap n=n:=by rw[IntKind.wrap_i64];omega
theorem aeO {x:Int} (h0:0≤x) (h1:x<9223372036854775808):Go.bits .and .i64 x 127=x % 128:=by
 have h:=bits_mask .i64 63 (by decide) LL 7 (by decide) x h0 (by omega);simpa using h
theorem or7 {x y:Int} (h0:0≤x) (h1:x<9223372036854775808) (hx:x % 128=0) (jV:0≤y) (hy:y<128):Go.bits .or .i64 x y=x+y:=
 bits_join .i64 63 (by decide) LL 7 x y h0 (by simpa using hx) (by omega) jV (by omega) (by omega)
def jl (b:List Int) (at_:Int):Nat→Int→Int→Int × Int × Bool
 |0,_,_=>(0,0,false)
 |d+1,n,k=>if 0≤at_∧at_+k<(b.length:Int) then
  (if k=0∧rd b (at_+k)=128 then (0,0,false) else
   if rd b (at_+k)<128 then (if n*128+rd b (at_+k) % 128>1000000000 then (0,0,false) else (n*128+rd b (at_+k) % 128,at_+k+1,true))
   else jl b at_ d (n*128+rd b (at_+k) % 128) (k+1)) else (0,0,false)
def xu:Nat→Int
 |0=>0
 |k+1=>xu k*128+127
theorem aam (k:Nat) (h:k≤5):xu k≤34359738367:=by
 have:k=0∨k=1∨k=2∨k=3∨k=4∨k=5:=by omega
 rcases this with rfl|rfl|rfl|rfl|rfl|rfl<;>decide
theorem PB (b:List Int) (hb:cK b) (at_:Int):∀(d:Nat) (n k:Int),0≤k→0≤n→(jl b at_ d n k).2.2=true →
 0≤(jl b at_ d n k).1∧(jl b at_ d n k).1≤1000000000∧at_+k+1≤(jl b at_ d n k).2.1∧0≤at_∧(jl b at_ d n k).2.1≤b.length:=by
 intro d
 induction d with
 |zero=>intro n k hk hn h;simp[jl]at h
 |succ d ih=>
  intro n k hk hn h;have hc:=hb (at_+k);unfold jl at h ⊢;by_cases hr:0≤at_∧at_+k<(b.length:Int)
  ·rw[if_pos hr]at h ⊢;by_cases h1:k=0∧rd b (at_+k)=128
   ·rw[if_pos h1]at h;simp at h
   ·rw[if_neg h1]at h ⊢;by_cases h2:rd b (at_+k)<128
    ·rw[if_pos h2]at h ⊢;by_cases h3:n*128+rd b (at_+k) % 128>1000000000
     ·rw[if_pos h3]at h;simp at h
     ·rw[if_neg h3];refine⟨?_,?_,?_,?_,?_⟩<;>first|omega|(dsimp only;omega)
    ·rw[if_neg h2]at h ⊢;obtain⟨a1,a2,a3,a4,a5⟩:=ih _ (k+1) (by omega) (by omega) h;exact⟨a1,a2,by omega,a4,a5⟩
  ·rw[if_neg hr]at h;simp at h
def mq (b:List Int) (at_:Int):ByteArray × Int × Bool:=
 if (jl b at_ 5 0 0).2.2=true then
  (if (jl b at_ 5 0 0).1>(b.length:Int)-(jl b at_ 5 0 0).2.1 then ((⟨#[]⟩:ByteArray),0,false)
   else (strOfNums ((b.take ((jl b at_ 5 0 0).2.1+(jl b at_ 5 0 0).1).toNat).drop ((jl b at_ 5 0 0).2.1).toNat),(jl b at_ 5 0 0).2.1+(jl b at_ 5 0 0).1,true))
 else ((⟨#[]⟩:ByteArray),0,false)
theorem Vn (s:ByteArray):cK (bytesOf s):=by
 apply cK.CB;intro x hx;simp only[bytesOf,List.mem_map]at hx;obtain⟨b,_,rfl⟩:=hx;have:=b.toNat_lt;omega
theorem ofInt64 (a:Nat) (ha:a<18446744073709551616):(BitVec.ofInt 64 (a:Int)).toNat=a:=by
 rw[BitVec.ofInt_natCast,BitVec.toNat_ofNat];exact Nat.mod_eq_of_lt (by omega)
theorem ofInt32 (a:Nat) (ha:a<4294967296):(BitVec.ofInt 32 (a:Int)).toNat=a:=by
 rw[BitVec.ofInt_natCast,BitVec.toNat_ofNat];exact Nat.mod_eq_of_lt (by omega)
theorem SO (a b:Nat) (ha:a<4294967296) (hb:b<4294967296):Go.bits .xor .i64 (a:Int) (b:Int)=((a ^^^ b:Nat):Int):=by
 have hx:a ^^^ b<2 ^ 32:=Nat.xor_lt_two_pow (by omega) (by omega);show IntKind.i64.wrap ((BitVec.ofInt 64 (a:Int) ^^^ BitVec.ofInt 64 (b:Int)).toNat:Int)=_;rw[BitVec.toNat_xor,ofInt64 a (by omega),ofInt64 b (by omega),IntKind.wrap_i64];omega
theorem SP (a b:Nat) (ha:a<4294967296) (hb:b<4294967296):Go.bits .xor .u32 (a:Int) (b:Int)=((a ^^^ b:Nat):Int):=by
 have hx:a ^^^ b<2 ^ 32:=Nat.xor_lt_two_pow (by omega) (by omega);show IntKind.u32.wrap ((BitVec.ofInt 32 (a:Int) ^^^ BitVec.ofInt 32 (b:Int)).toNat:Int)=_;rw[BitVec.toNat_xor,ofInt32 a ha,ofInt32 b hb,IntKind.wrap_u32];omega
theorem aoA (a:Nat) (v:Int) (ha:a<4294967296) (h0:0≤v) (h1:v<4294967296):Go.bits .xor .i64 (a:Int) v=((a ^^^ v.toNat:Nat):Int):=by
 obtain⟨c,rfl⟩:=Int.eq_ofNat_of_zero_le h0;simpa using SO a c ha (by omega)
theorem aeP (a:Nat) (ha:a<4294967296):Go.bits .and .i64 (a:Int) 1=((a % 2:Nat):Int):=by
 have h:=bits_mask .i64 63 (by decide) LL 1 (by decide) (a:Int) (by omega) (by omega);have h2:Go.bits .and .i64 (a:Int) 1=(a:Int) % 2:=by simpa using h
 rw[h2];omega
theorem aoq (n:Int) (h0:0≤n) (h1:n<2 ^ 32):IntKind.u32.wrap n=n:=by rw[IntKind.wrap_u32];omega
theorem aeQ (a:Nat) (ha:a<4294967296):Go.bits .and .u32 (a:Int) 1=((a % 2:Nat):Int):=by
 have h:=bits_mask .u32 32 (by decide) aoq 1 (by decide) (a:Int) (by omega) (by omega);have h2:Go.bits .and .u32 (a:Int) 1=(a:Int) % 2:=by simpa using h
 rw[h2];omega
def uo (x:Nat):Nat:=if x % 2=1 then x / 2 ^^^ 2197175160 else x / 2
def Ex:Nat→Nat→Nat
 |0,x=>x
 |n+1,x=>Ex n (uo x)
def afJ (x c:Nat):Nat:=Ex 8 (x ^^^ c)
def Jy:List Int→Nat→Nat
 |[],x=>x
 |c::l,x=>Jy l (afJ x c.toNat)
def CO (l:List Int):Int:=((Jy l 4294967295 ^^^ 4294967295:Nat):Int)
theorem L4 {a b:Nat} (ha:a<4294967296) (hb:b<4294967296):a ^^^ b<4294967296:=by
 have:=Nat.xor_lt_two_pow (n:=32) (x:=a) (y:=b) (by omega) (by omega);omega
theorem OF {x:Nat} (h:x<4294967296):uo x<4294967296:=by
 unfold uo;split
 ·exact L4 (by omega) (by omega)
 ·omega
theorem OG:∀(n:Nat) {x:Nat},x<4294967296→Ex n x<4294967296
 |0,_,h=>h
 |n+1,_,h=>OG n (OF h)
def vo (b:List Int) (at_:Int):Int:=rd b at_*16777216+rd b (at_+1)*65536+rd b (at_+2)*256+rd b (at_+3)
def km (b:List Int) (at_:Int):List Int × Int × Bool:=
 if 0≤at_∧at_≤(b.length:Int)-4 then
  (if (mq b (at_+4)).2.2=true∧CO (bytesOf (mq b (at_+4)).1)=vo b at_ then (bytesOf (mq b (at_+4)).1,(mq b (at_+4)).2.1,true) else ([],at_,false))
 else ([],at_,false)
theorem ae1 (l:List Int) (h:∀x ∈ l,0≤x∧x≤255):bytesOf (strOfNums l)=l:=by
 unfold bytesOf;rw[strOfNums_data,List.map_map]
 conv=>rhs;rw[←List.map_id l]
 apply List.map_congr_left;intro x hx;have:=h x hx;simp only[Function.comp_apply,id_eq]
 have e:(UInt8.ofNat x.toNat).toNat=x.toNat:=by
  rw[UInt8.toNat_ofNat'];omega
 first|(rw[e];omega)|(simp only[UInt8.toNat_ofNat'];omega)
theorem alx (b:List Int) (n:Int) (i:Nat) (r:Int) (hi:i<281474976710656):∀(d x j:Nat),j+d=8→x<4294967296→Ev (fun q=>fW.U q ((Ex d x:Nat):Int) b n ((i+1:Nat):Int)) r →
 Ev (fun q=>fW.l1 q (x:Int) b n (i:Int) (j:Int)) r:=by
 intro d
 induction d with
 |zero=>
  intro x j hj hx h;refine Ev.step (f:=fun q=>fW.U q (x:Int) b n ((i+1:Nat):Int)) (fun q=>?_) h;simp only[fW.l1];rw[if_neg (by omega),dp (i:=(i:Int)+1) (by omega) (by omega)];rfl
 |succ d ih=>
  intro x j hj hx h;refine Ev.step (f:=fun q=>fW.l1 q ((uo x:Nat):Int) b n (i:Int) ((j+1:Nat):Int)) (fun q=>?_) (ih (uo x) (j+1) (by omega) (OF hx) h);simp only[fW.l1];have hd:(x:Int) / 2=((x / 2:Nat):Int):=by omega
  rw[if_pos (by omega),aeQ x hx,hd,dp (i:=(j:Int)+1) (by omega) (by omega)];have e2:(2197175160:Int)=((2197175160:Nat):Int):=rfl;rw[e2,SP (x / 2) 2197175160 (by omega) (by omega)];unfold uo;by_cases h1:x % 2=1
  ·rw[if_pos h1,if_pos (by omega)];rfl
  ·rw[if_neg h1,if_neg (by omega)];rfl
theorem alw (b:List Int) (hb:cK b) (hn:b.length<281474976710656):∀(d x i:Nat),i+d=b.length→x<4294967296→Ev (fun q=>fW.U q (x:Int) b (b.length:Int) (i:Int)) ((Jy (b.drop i) x ^^^ 4294967295:Nat):Int):=by
 intro d
 induction d with
 |zero=>
  intro x i hi hx;rw[List.drop_eq_nil_of_le (by omega)];refine Ev.step (f:=fun _=>some _) (fun q=>?_) (Ev.now _);simp only[fW.U];rw[if_neg (by omega)];have e2:(4294967295:Int)=((4294967295:Nat):Int):=rfl;have hy:=L4 (a:=4294967295) (b:=x) (by omega) hx;rw[e2,SP 4294967295 x (by omega) hx,dp (by omega) (by omega),Nat.xor_comm];rfl
 |succ d ih=>
  intro x i hi hx;have hc:=hb (i:Int);rw[VR (by omega)];have hcn:rd b (i:Int) % 4294967296=(((rd b (i:Int)).toNat:Nat):Int):=by omega
  have hy:x ^^^ (rd b (i:Int)).toNat<4294967296:=L4 hx (by omega);refine Ev.step (f:=fun q=>fW.l1 q ((x ^^^ (rd b (i:Int)).toNat:Nat):Int) b (b.length:Int) (i:Int) ((0:Nat):Int)) (fun q=>?_) (alx b _ i _ (by omega) 8 _ 0 rfl hy (ih _ (i+1) (by omega) (OG 8 hy)));simp only[fW.U];rw[if_pos (by omega),if_pos (by omega),if_pos (by omega),hcn,SP x _ hx (by omega)];rfl
theorem alv (b:List Int) (hb:cK b) (hn:b.length<281474976710656):Ev (fun q=>fW.f q b) (CO b):=
 alw b hb hn b.length 4294967295 0 (by omega) (by omega)
theorem als (b:List Int) (hb:cK b) (hn:b.length≤281474976710656) (at_:Int) (ha:at_≤9223372036854775807):∀(d:Nat) (n:Int) (k:Nat),k+d=5→0≤n→n≤xu k →
 Ev (fun q=>ek.U q b at_ n (k:Int)) (jl b at_ d n (k:Int)):=by
 intro d
 induction d with
 |zero=>
  intro n k hk h0 h1;refine Ev.step (f:=fun q=>ek.j1 q b at_ n (k:Int) false) (fun q=>?_) (Ev.step (f:=fun _=>some (0,0,false)) (fun q=>?_) (Ev.now _))
  ·simp only[ek.U];rw[if_neg (by omega)]
  ·simp[ek.j1]
 |succ d ih=>
  intro n k hk h0 h1;have ht:=aam k (by omega);have hc:=hb (at_+(k:Int));have hl:wrap64 ((b.length:Int)-(k:Int))=(b.length:Int)-(k:Int):=dp (by omega) (by omega);unfold jl;by_cases hr:0≤at_∧at_+(k:Int)<(b.length:Int)
  ·rw[if_pos hr];have hw:wrap64 (at_+(k:Int))=at_+(k:Int):=dp (by omega) (by omega);have hwc:wrap64 (rd b (at_+(k:Int)))=rd b (at_+(k:Int)):=dp (by omega) (by omega);have hwn:wrap64 (n*128)=n*128:=dp (by omega) (by omega);have hmod:Int.tmod (rd b (at_+(k:Int))) 128=rd b (at_+(k:Int)) % 128:=Int.tmod_eq_emod_of_nonneg (by omega);have hws:wrap64 (n*128+rd b (at_+(k:Int)) % 128)=n*128+rd b (at_+(k:Int)) % 128:=dp (by omega) (by omega);refine Ev.step (f:=fun q=>ek.j1 q b at_ n (k:Int) true) (fun q=>?_) ?_
   ·simp only[ek.U];rw[if_pos (by omega),if_pos (by omega),hl,decide_eq_true (by omega)]
   ·by_cases sc:(k:Int)=0∧rd b (at_+(k:Int))=128
    ·rw[if_pos sc];refine Ev.step (f:=fun q=>ek.j2 q b at_ n (k:Int) (rd b (at_+(k:Int))) true) (fun q=>?_) (Ev.step (f:=fun _=>some (0,0,false)) (fun q=>?_) (Ev.now _))
     ·simp only[ek.j1,hw,hwc];rw[if_pos trivial,if_pos (by omega),if_pos (by omega),if_pos sc.1];simp[sc.2]
     ·simp[ek.j2]
    ·rw[if_neg sc];refine Ev.step (f:=fun q=>ek.j2 q b at_ n (k:Int) (rd b (at_+(k:Int))) false) (fun q=>?_) ?_
     ·simp only[ek.j1,hw,hwc];rw[if_pos trivial,if_pos (by omega),if_pos (by omega)];by_cases zj:(k:Int)=0
      ·rw[if_pos zj];have:rd b (at_+(k:Int))≠128:=fun e=>sc ⟨zj,e⟩
       rw[beq_eq_false_iff_ne.2 this]
      ·rw[if_neg zj]
     ·by_cases hlt:rd b (at_+(k:Int))<128
      ·rw[if_pos hlt];refine Ev.step (f:=fun _=>some _) (fun q=>?_) (Ev.now _);simp only[ek.j2,hwn,hmod,hws,hw];rw[if_neg (by simp),if_neg (by omega)];by_cases hg:n*128+rd b (at_+(k:Int)) % 128>1000000000
       ·rw[if_pos hg,if_pos hg]
       ·rw[if_neg hg,if_neg hg,dp (i:=at_+(k:Int)+1) (by omega) (by omega)]
      ·rw[if_neg hlt];have h2:xu (k+1)=xu k*128+127:=rfl;refine Ev.step (f:=fun q=>ek.U q b at_ (n*128+rd b (at_+(k:Int)) % 128) ((k+1:Nat):Int)) (fun q=>?_) ?_
       ·simp only[ek.j2,hwn,hmod,hws];rw[if_neg (by simp),if_pos (by omega),dp (i:=(k:Int)+1) (by omega) (by omega)];rfl
       ·exact ih _ (k+1) (by omega) (by omega) (by omega)
  ·rw[if_neg hr];refine Ev.step (f:=fun q=>ek.j1 q b at_ n (k:Int) false) (fun q=>?_) (Ev.step (f:=fun _=>some (0,0,false)) (fun q=>?_) (Ev.now _))
   ·simp only[ek.U];rw[if_pos (by omega)];by_cases h3:at_≥0
    ·rw[if_pos h3,hl,decide_eq_false (by omega)]
    ·rw[if_neg h3]
   ·simp[ek.j1]
theorem alr (b:List Int) (hb:cK b) (hn:b.length≤281474976710656) (at_:Int) (ha:at_≤9223372036854775807):Ev (fun q=>ek.f q b at_) (jl b at_ 5 0 0):=
 als b hb hn at_ ha 5 0 0 rfl (Int.le_refl 0) (Int.le_refl 0)
theorem alu (b:List Int) (hb:cK b) (hn:b.length≤281474976710656) (at_:Int) (ha:at_≤9223372036854775807):Ev (fun q=>uJ.f q b at_) (mq b at_):=by
 obtain⟨K,h⟩:=alr b hb (by omega) at_ ha;dsimp only at h;refine⟨K,fun q hq=>?_⟩;simp only[uJ.f];rw[h q hq,Option.bind_some];unfold mq;have hr:=PB b hb at_ 5 0 0 (Int.le_refl 0) (Int.le_refl 0);generalize jl b at_ 5 0 0=g at hr ⊢
 by_cases h1:g.2.2=true
 ·obtain⟨a1,a2,a3,a4,a5⟩:=hr h1;rw[if_pos h1,if_pos h1,dp (i:=(b.length:Int)-g.2.1) (by omega) (by omega)];by_cases h2:g.1>(b.length:Int)-g.2.1
  ·rw[if_pos h2,if_pos h2]
  ·rw[if_neg h2,if_neg h2,dp (i:=g.2.1+g.1) (by omega) (by omega),if_pos (by omega),if_pos (by omega),if_pos (by omega)]
 ·rw[if_neg h1,if_neg h1]
theorem YL (a b c:Int):qT.f a b c=some (decide (b≤a)&&decide (a≤c)):=by
 unfold qT.f;by_cases h:a≥b
 ·rw[if_pos h,decide_eq_true (show b≤a from h),Bool.true_and]
 ·rw[if_neg h,decide_eq_false (show ¬b≤a from h),Bool.false_and]
theorem VL (s:ByteArray) (h:s.size≤4611686018427387904):tq.f s=some (bytesOf s):=by
 unfold tq.f;rw[if_pos h]
theorem Z2 (l:List Int):(strOfNums l).size=l.length:=by simp[strOfNums_size]
theorem aah (b:List Int) (i:Int):(mq b i).1.size≤b.length:=by
 unfold mq;split
 ·split
  ·exact Nat.zero_le _
  ·dsimp only;rw[Z2,List.length_drop,List.length_take];omega
 ·exact Nat.zero_le _
theorem Rc (m:Nat) {x y:Int} (hm:m≤62) (h0:0≤x) (h1:x<9223372036854775808) (hx:x % 2 ^ m=0) (jV:0≤y) (hy:y<2 ^ m) (hs:x+y<9223372036854775808):Go.bits .or .i64 x y=x+y:=
 bits_join .i64 63 (by decide) LL m x y h0 hx (by omega) jV hy (by omega)
theorem aaC (b:List Int) (hb:cK b) (i:Nat) (hi:i+4≤b.length) (hn:b.length≤281474976710656):qa.f b (i:Int)=some (vo b (i:Int)):=by
 have c0:=hb (i:Int);have c1:=hb ((i:Int)+1);have c2:=hb ((i:Int)+2);have c3:=hb ((i:Int)+3);have w1:wrap64 ((i:Int)+1)=(i:Int)+1:=dp (by omega) (by omega);have w2:wrap64 ((i:Int)+2)=(i:Int)+2:=dp (by omega) (by omega);have w3:wrap64 ((i:Int)+3)=(i:Int)+3:=dp (by omega) (by omega);unfold qa.f;rw[w1,w2,w3,if_pos (by omega),if_pos (by omega),if_pos (by omega),if_pos (by omega),if_pos (by omega),if_pos (by omega),if_pos (by omega),if_pos (by omega)];unfold vo;generalize rd b (i:Int)=a0 at c0
 generalize rd b ((i:Int)+1)=a1 at c1
 generalize rd b ((i:Int)+2)=a2 at c2
 generalize rd b ((i:Int)+3)=a3 at c3
 rw[dp (i:=a0) (by omega) (by omega),dp (i:=a1) (by omega) (by omega),dp (i:=a2) (by omega) (by omega),dp (i:=a3) (by omega) (by omega),dp (i:=a0*16777216) (by omega) (by omega),dp (i:=a1*65536) (by omega) (by omega),dp (i:=a2*256) (by omega) (by omega)];rw[Rc 24 (x:=a0*16777216) (y:=a1*65536) (by omega) (by omega) (by omega) (by omega) (by omega) (by omega) (by omega),Rc 16 (x:=a0*16777216+a1*65536) (y:=a2*256) (by omega) (by omega) (by omega) (by omega) (by omega) (by omega) (by omega),Rc 8 (x:=a0*16777216+a1*65536+a2*256) (y:=a3) (by omega) (by omega) (by omega) (by omega) (by omega) (by omega) (by omega)]
theorem alp (b:List Int) (hb:cK b) (hn:b.length≤281474976710000) (i:Nat) (hi:i≤281474976710656):Ev (fun k=>ia.f k b (i:Int)) (km b (i:Int)):=by
 have hw:wrap64 ((b.length:Int)-4)=(b.length:Int)-4:=dp (by omega) (by omega);have QP:wrap64 ((i:Int)+4)=(i:Int)+4:=dp (by omega) (by omega);simp only[ia.f,YL,hw,QP,Option.bind_some];unfold km;by_cases hc:(0:Int)≤(i:Int)∧(i:Int)≤(b.length:Int)-4
 ·rw[if_pos hc];have hd:(decide ((0:Int)≤(i:Int))&&decide ((i:Int)≤(b.length:Int)-4))=true:=by rw[decide_eq_true hc.1,decide_eq_true hc.2];rfl
  have jt:Ev (fun k=>ia.j0 k (i:Int) (mq b ((i:Int)+4)).1 (mq b ((i:Int)+4)).2.1 true) ([],(i:Int),false):=Ev.ends (fun k=>by simp only[ia.j0];rw[if_pos trivial]);refine Ev.congr (f:=fun k=>(uJ.f k b ((i:Int)+4)).bind fun BH=>(if BH.2.2=true then ((tq.f BH.1).bind fun t134=>((fW.f k t134).bind fun t137=>((qa.f b (i:Int)).bind fun t138=>(ia.j0 k (i:Int) BH.1 BH.2.1 (t137 != t138))))) else (ia.j0 k (i:Int) BH.1 BH.2.1 true))) (fun k=>by rw[if_pos hd]) ?_;refine Ev.bind' (alu b hb (by omega) ((i:Int)+4) (by omega)) ?_;have hsz:=aah b ((i:Int)+4);generalize mq b ((i:Int)+4)=t at jt hsz ⊢
  have hts:t.1.size≤4611686018427387904:=by omega
  have hi4:i+4≤b.length:=by omega
  by_cases ht:t.2.2=true
  ·refine Ev.congr (f:=fun k=>(fW.f k (bytesOf t.1)).bind fun t137=>(ia.j0 k (i:Int) t.1 t.2.1 (t137 != vo b (i:Int)))) (fun k=>by rw[if_pos ht,VL t.1 hts,Option.bind_some,aaC b hb i hi4 (by omega)];rfl) ?_;refine Ev.bind' (alv (bytesOf t.1) (Vn t.1) (by rw[Vo];omega)) ?_;by_cases hs:CO (bytesOf t.1)=vo b (i:Int)
   ·rw[if_pos ⟨ht,hs⟩,hs,bne_self_eq_false];refine Ev.ends (fun k=>?_);simp only[ia.j0];rw[if_neg (by decide),VL t.1 hts,Option.bind_some]
   ·rw[if_neg (fun h=>hs h.2),bne_iff_ne.2 hs];exact jt
  ·rw[if_neg (fun h=>ht h.1)];exact Ev.congr (fun k=>by rw[if_neg ht]) jt
 ·rw[if_neg hc]
  have hd:(decide ((0:Int)≤(i:Int))&&decide ((i:Int)≤(b.length:Int)-4))=false:=by
   rw[Bool.and_eq_false_iff];by_cases h:(0:Int)≤(i:Int)
   ·exact .inr (decide_eq_false (fun h2=>hc ⟨h,h2⟩))
   ·exact .inl (decide_eq_false h)
  exact Ev.all (fun k=>by rw[if_neg (by rw[hd];decide)])
theorem ane (b:List Int) (hb:cK b) (hn:b.length≤281474976710656) (at_:Int) (ha:at_≤9223372036854775807):∀(d:Nat) (n:Int) (k:Nat),k+d=5→0≤n→n≤xu k →
 Ev (fun q=>ev.U q b at_ n (k:Int)) (jl b at_ d n (k:Int)):=by
 intro d
 induction d with
 |zero=>
  intro n k hk h0 h1;refine Ev.step (f:=fun q=>ev.j1 q b at_ n (k:Int) false) (fun q=>?_) (Ev.step (f:=fun _=>some (0,0,false)) (fun q=>?_) (Ev.now _))
  ·simp only[ev.U];rw[if_neg (by omega)]
  ·simp[ev.j1]
 |succ d ih=>
  intro n k hk h0 h1;have ht:=aam k (by omega);have hc:=hb (at_+(k:Int));unfold jl;by_cases hr:0≤at_∧at_+(k:Int)<(b.length:Int)
  ·rw[if_pos hr];have hw:wrap64 (at_+(k:Int))=at_+(k:Int):=dp (by omega) (by omega);have hwc:wrap64 (rd b (at_+(k:Int)))=rd b (at_+(k:Int)):=dp (by omega) (by omega);have hwn:wrap64 (n*128)=n*128:=dp (by omega) (by omega);have hand:Go.bits .and .i64 (rd b (at_+(k:Int))) 127=rd b (at_+(k:Int)) % 128:=aeO (by omega) (by omega);have hor:Go.bits .or .i64 (n*128) (rd b (at_+(k:Int)) % 128)=n*128+rd b (at_+(k:Int)) % 128:=or7 (by omega) (by omega) (by omega) (by omega) (by omega);refine Ev.step (f:=fun q=>ev.j1 q b at_ n (k:Int) true) (fun q=>?_) ?_
   ·simp only[ev.U];rw[if_pos (by omega),if_pos (by omega),if_pos (by omega),hw,decide_eq_true hr.2]
   ·by_cases sc:(k:Int)=0∧rd b (at_+(k:Int))=128
    ·rw[if_pos sc];refine Ev.step (f:=fun q=>ev.j2 q b at_ n (k:Int) (rd b (at_+(k:Int))) true) (fun q=>?_) (Ev.step (f:=fun _=>some (0,0,false)) (fun q=>?_) (Ev.now _))
     ·simp only[ev.j1,hw,hwc];rw[if_pos trivial,if_pos (by omega),if_pos (by omega),if_pos sc.1];simp[sc.2]
     ·simp[ev.j2]
    ·rw[if_neg sc];refine Ev.step (f:=fun q=>ev.j2 q b at_ n (k:Int) (rd b (at_+(k:Int))) false) (fun q=>?_) ?_
     ·simp only[ev.j1,hw,hwc];rw[if_pos trivial,if_pos (by omega),if_pos (by omega)];by_cases zj:(k:Int)=0
      ·rw[if_pos zj];have:rd b (at_+(k:Int))≠128:=fun e=>sc ⟨zj,e⟩
       rw[beq_eq_false_iff_ne.2 this]
      ·rw[if_neg zj]
     ·by_cases hlt:rd b (at_+(k:Int))<128
      ·rw[if_pos hlt];refine Ev.step (f:=fun _=>some _) (fun q=>?_) (Ev.now _);simp only[ev.j2,hwn,hand,hor,hw];rw[if_neg (by simp),if_pos hlt];by_cases hg:n*128+rd b (at_+(k:Int)) % 128>1000000000
       ·rw[if_pos hg,if_pos hg]
       ·rw[if_neg hg,if_neg hg,dp (i:=at_+(k:Int)+1) (by omega) (by omega)]
      ·rw[if_neg hlt];have h2:xu (k+1)=xu k*128+127:=rfl;refine Ev.step (f:=fun q=>ev.U q b at_ (n*128+rd b (at_+(k:Int)) % 128) ((k+1:Nat):Int)) (fun q=>?_) ?_
       ·simp only[ev.j2,hwn,hand,hor];rw[if_neg (by simp),if_neg hlt,dp (i:=(k:Int)+1) (by omega) (by omega)];rfl
       ·exact ih _ (k+1) (by omega) (by omega) (by omega)
  ·rw[if_neg hr];refine Ev.step (f:=fun q=>ev.j1 q b at_ n (k:Int) false) (fun q=>?_) (Ev.step (f:=fun _=>some (0,0,false)) (fun q=>?_) (Ev.now _))
   ·simp only[ev.U];rw[if_pos (by omega)];by_cases h3:at_≥0
    ·rw[if_pos h3];by_cases h4:at_<(b.length:Int)
     ·rw[if_pos h4,dp (i:=at_+(k:Int)) (by omega) (by omega),decide_eq_false (by omega)]
     ·rw[if_neg h4]
    ·rw[if_neg h3]
   ·simp[ev.j1]
theorem anc (b:List Int) (hb:cK b) (hn:b.length≤281474976710656) (at_:Int) (ha:at_≤9223372036854775807):Ev (fun q=>ev.f q b at_) (jl b at_ 5 0 0):=
 ane b hb hn at_ ha 5 0 0 rfl (Int.le_refl 0) (Int.le_refl 0)
theorem anm (b:List Int) (i:Nat) (r:Int) (hi:i<281474976710656):∀(d x j:Nat),j+d=8→x<4294967296→Ev (fun q=>gE.U q b ((Ex d x:Nat):Int) ((i+1:Nat):Int)) r →
 Ev (fun q=>gE.l1 q b (x:Int) (i:Int) (j:Int)) r:=by
 intro d
 induction d with
 |zero=>
  intro x j hj hx h;refine Ev.step (f:=fun q=>gE.U q b (x:Int) ((i+1:Nat):Int)) (fun q=>?_) h;simp only[gE.l1];rw[if_neg (by omega),dp (i:=(i:Int)+1) (by omega) (by omega)];rfl
 |succ d ih=>
  intro x j hj hx h;refine Ev.step (f:=fun q=>gE.l1 q b ((uo x:Nat):Int) (i:Int) ((j+1:Nat):Int)) (fun q=>?_) (ih (uo x) (j+1) (by omega) (OF hx) h);simp only[gE.l1];have hd:(x:Int) / 2=((x / 2:Nat):Int):=by omega
  rw[if_pos (by omega),aeP x hx,hd,dp (i:=(j:Int)+1) (by omega) (by omega)];have e2:(2197175160:Int)=((2197175160:Nat):Int):=rfl;rw[e2,SO (x / 2) 2197175160 (by omega) (by omega)];unfold uo;by_cases h1:x % 2=1
  ·rw[if_pos h1,if_pos (by omega)];rfl
  ·rw[if_neg h1,if_neg (by omega)];rfl
theorem anl (b:List Int) (hb:cK b) (hn:b.length<281474976710656):∀(d x i:Nat),i+d=b.length→x<4294967296→Ev (fun q=>gE.U q b (x:Int) (i:Int)) ((Jy (b.drop i) x ^^^ 4294967295:Nat):Int):=by
 intro d
 induction d with
 |zero=>
  intro x i hi hx;rw[List.drop_eq_nil_of_le (by omega)];refine Ev.step (f:=fun _=>some _) (fun q=>?_) (Ev.now _);simp only[gE.U];rw[if_neg (by omega)];have e2:(4294967295:Int)=((4294967295:Nat):Int):=rfl;rw[e2,SO x 4294967295 hx (by omega)];rfl
 |succ d ih=>
  intro x i hi hx;have hc:=hb (i:Int);rw[VR (by omega)];have hy:x ^^^ (rd b (i:Int)).toNat<4294967296:=L4 hx (by omega);refine Ev.step (f:=fun q=>gE.l1 q b ((x ^^^ (rd b (i:Int)).toNat:Nat):Int) (i:Int) ((0:Nat):Int)) (fun q=>?_) (anm b i _ (by omega) 8 _ 0 rfl hy (ih _ (i+1) (by omega) (OG 8 hy)));simp only[gE.U];rw[if_pos (by omega),if_pos (by omega),dp (i:=rd b (i:Int)) (by omega) (by omega),aoA x _ hx (by omega) (by omega)];rfl
theorem ank (b:List Int) (hb:cK b) (hn:b.length<281474976710656):Ev (fun q=>gE.f q b) (CO b):=
 anl b hb hn b.length 4294967295 0 (by omega) (by omega)
theorem am6 (b:List Int) (hb:cK b) (hn:b.length≤281474976710656) (i:Int) (hi:i≤9223372036854775807):Ev (fun k=>lH.f k b i) (if 0≤i∧i≤(b.length:Int)-4 then (vo b i,true) else (0,false)):=by
 have hw:wrap64 ((b.length:Int)-4)=(b.length:Int)-4:=dp (by omega) (by omega);simp only[lH.f,hw];by_cases h0:i<0
 ·rw[if_neg (by omega)];refine Ev.ends (fun k=>?_);rw[if_pos h0];simp only[lH.j0];rfl
 by_cases h1:i>(b.length:Int)-4
 ·rw[if_neg (by omega)];refine Ev.ends (fun k=>?_);rw[if_neg h0,decide_eq_true h1];simp only[lH.j0];rfl
 ·rw[if_pos (by omega)];obtain⟨j,rfl⟩:∃j:Nat,i=(j:Int):=⟨i.toNat,by omega⟩;have h:=aaC b hb j (by omega) hn;unfold qa.f at h;have w1:wrap64 ((j:Int)+1)=(j:Int)+1:=dp (by omega) (by omega);have w2:wrap64 ((j:Int)+2)=(j:Int)+2:=dp (by omega) (by omega);have w3:wrap64 ((j:Int)+3)=(j:Int)+3:=dp (by omega) (by omega);rw[w1,w2,w3,if_pos (by omega),if_pos (by omega),if_pos (by omega),if_pos (by omega),if_pos (by omega),if_pos (by omega),if_pos (by omega),if_pos (by omega)]at h;refine Ev.ends (fun k=>?_);rw[if_neg h0,decide_eq_false h1];simp only[lH.j0];rw[if_neg (by decide),w1,w2,w3,if_pos (by omega),if_pos (by omega),if_pos (by omega),if_pos (by omega),if_pos (by omega),if_pos (by omega),if_pos (by omega),if_pos (by omega),Option.some.inj h]
theorem afK {b:List Int} (hb:cK b) (m n:Nat):∀x ∈ (b.take m).drop n,0≤x∧x≤255:=fun x hx=>hb.mem x (List.mem_of_mem_take (List.mem_of_mem_drop hx))
theorem am9 (b:List Int) (hb:cK b) (hn:b.length≤140737488000000) (i:Int) (hi:i≤9223372036854775807):Ev (fun k=>kk.f k b i) (km b i):=by
 unfold kk.f km;refine Ev.bind' (am6 b hb (by omega) i hi) ?_;by_cases hc:0≤i∧i≤(b.length:Int)-4
 ·simp only[hc,and_self,if_true];have QP:wrap64 (i+4)=i+4:=dp (by omega) (by omega);rw[QP];refine Ev.bind' (anc b hb (by omega) (i+4) (by omega)) ?_;have hr:=PB b hb (i+4) 5 0 0 (Int.le_refl 0) (Int.le_refl 0);unfold mq;generalize jl b (i+4) 5 0 0=g at hr ⊢
  have jt:Ev (fun k=>kk.j0 k b i (vo b i) g.1 g.2.1 true) ([],i,false):=Ev.ends (fun k=>by simp only[kk.j0];rw[if_pos trivial]);by_cases h1:g.2.2=true
  ·obtain⟨a1,a2,a3,a4,a5⟩:=hr h1;simp only[h1,if_true];rw[dp (i:=(b.length:Int)-g.2.1) (by omega) (by omega)];by_cases h2:g.1>(b.length:Int)-g.2.1
   ·rw[decide_eq_true h2,if_pos h2,if_neg (fun h=>by simp at h)];exact jt
   ·rw[decide_eq_false h2,if_neg h2];have hcl:((b.take (g.2.1+g.1).toNat).drop g.2.1.toNat).length≤b.length:=by rw[List.length_drop,List.length_take];omega
    have hci:=afK hb (g.2.1+g.1).toNat g.2.1.toNat;have hbs:=ae1 _ hci;simp only[true_and];rw[hbs];refine Ev.step (f:=fun k=>(gE.f k ((b.take (g.2.1+g.1).toNat).drop g.2.1.toNat)).bind fun t=>(if t=vo b i then (some ((b.take (g.2.1+g.1).toNat).drop g.2.1.toNat,g.2.1+g.1,true)) else (some (([]:List Int),i,false)))) (fun k=>?_) ?_
    ·simp only[kk.j0,Option.bind_some];rw[if_neg (by decide),dp (i:=g.2.1+g.1) (by omega) (by omega),if_pos (by omega),if_pos (by omega),if_pos (by omega),if_pos (by rw[List.length_nil];omega),List.nil_append]
    ·refine Ev.bind' (ank _ (cK.CB hci) (by omega)) ?_;by_cases hs:CO ((b.take (g.2.1+g.1).toNat).drop g.2.1.toNat)=vo b i
     ·simp only[hs,if_true];exact Ev.now _
     ·simp only[hs,if_false];exact Ev.now _
  ·simp only[h1,if_false];rw[if_neg (fun h=>by simp at h)];exact jt
 ·simp only[hc,if_false];exact Ev.now _
theorem alo (b:List Int) (hb:cK b) (hn:b.length≤281474976710000) (i:Int) (h1:i≤9223372036854775807):Ev (fun k=>ia.f k b i) (km b i):=by
 by_cases hc:0≤i∧i≤(b.length:Int)-4
 ·obtain⟨j,rfl⟩:∃j:Nat,i=(j:Int):=⟨i.toNat,by omega⟩;exact alp b hb hn j (by omega)
 ·have hw:wrap64 ((b.length:Int)-4)=(b.length:Int)-4:=dp (by omega) (by omega);unfold km;rw[if_neg hc];simp only[ia.f,YL,hw,Option.bind_some]
  have hd:(decide (0≤i)&&decide (i≤(b.length:Int)-4))=false:=by
   rw[Bool.and_eq_false_iff];by_cases h:0≤i
   ·exact .inr (decide_eq_false (fun h2=>hc ⟨h,h2⟩))
   ·exact .inl (decide_eq_false h)
  exact Ev.all (fun k=>by rw[if_neg (by rw[hd];decide)])
theorem anY (b:List Int) (i:Int):(km b i).1.length≤b.length:=by
 unfold km;split
 ·split
  ·dsimp only;rw[Vo];exact aah b (i+4)
  ·exact Nat.zero_le _
 ·exact Nat.zero_le _
def amc (n:Int):List Int:=
 if n<128 then [n % 128] else if n<16384 then [n / 128 % 128+128,n % 128] else if n<2097152 then [n / 16384 % 128+128,n / 128 % 128+128,n % 128]
 else if n<268435456 then [n / 2097152 % 128+128,n / 16384 % 128+128,n / 128 % 128+128,n % 128]
 else [n / 268435456 % 128+128,n / 2097152 % 128+128,n / 16384 % 128+128,n / 128 % 128+128,n % 128]
def afD (n:Int):Int:=if n>1000000000 then 1000000000 else if n<0 then 0 else n
def ax7 (n:Int) (out:List Int) (hi:Bool) (s:Nat):List Int × Bool:=if hi=true∨n / 2 ^ s % 128>0 then (out++[n / 2 ^ s % 128+128],true) else (out,hi)
def agO (a:Int):List Int:=[a / 16777216 % 256,a / 65536 % 256,a / 256 % 256,a % 256]
def apV (l:List Int):List Int:=agO (CO l)++(amc (afD (l.length:Int))++l)
theorem anN (b:List Int) (hb:cK b) (at_:Int) (h:(mq b at_).2.2=true):0≤at_∧at_+1≤(mq b at_).2.1∧(mq b at_).2.1≤(b.length:Int)∧((mq b at_).1.size:Int)+at_+1≤(mq b at_).2.1:=by
 unfold mq at h ⊢;have hr:=PB b hb at_ 5 0 0 (Int.le_refl 0) (Int.le_refl 0);generalize jl b at_ 5 0 0=g at hr h ⊢
 split at h
 ·rename_i c1;obtain⟨a1,a2,a3,a4,a5⟩:=hr c1;rw[if_pos c1];split at h
  ·simp at h
  ·rename_i c2;rw[if_neg c2];dsimp only;rw[Z2,List.length_drop,List.length_take];omega
 ·simp at h
theorem aas {b:List Int} (hb:cK b) {i:Int} (h:(km b i).2.2=true):0≤i∧i+5≤(km b i).2.1∧(km b i).2.1≤(b.length:Int):=by
 unfold km at h ⊢;split at h
 ·rename_i hc;rw[if_pos hc];split at h
  ·rename_i hs;rw[if_pos hs];have:=anN b hb (i+4) hs.1;dsimp only;omega
  ·exact absurd h (by simp)
 ·exact absurd h (by simp)
def nX:Nat→List Int→Int→List (List Int) × Int
 |0,_,i=>([],i)
 |n+1,b,i=>if (km b i).2.2=true then ((km b i).1::(nX n b (km b i).2.1).1,(nX n b (km b i).2.1).2) else ([],i)
def nt (b:List Int):List (List Int) × Int:=nX (b.length+1) b 0
theorem ZF (b:List Int) (hb:cK b) (hn:b.length≤1048576):∀(n:Nat) (i:Int) (out:List (List Int)),0≤i→i≤(b.length:Int)→(b.length:Int)-i<(n:Int)→(out.length:Int)≤i →
 Ev (fun k=>nu.U k b out i) (out++(nX n b i).1,(nX n b i).2)∧Ev (fun k=>nT.U k b out i) (out++(nX n b i).1,(nX n b i).2):=by
 intro n
 induction n with
 |zero=>intro i out h0 h1 h2 h3;omega
 |succ d ih=>
  intro i out h0 h1 h2 h3;obtain⟨K1,e1⟩:=am9 b hb (by omega) i (by omega);obtain⟨K2,e2⟩:=alo b hb (by omega) i (by omega);dsimp only at e1 e2;unfold nX;cases hc:(km b i).2.2 with
  |false=>
   rw[if_neg (by decide),List.append_nil];refine⟨⟨K1+1,fun k hk=>?_⟩,⟨K2+1,fun k hk=>?_⟩⟩
   ·obtain⟨q,rfl⟩:∃q,k=q+1:=⟨k-1,by omega⟩;simp only[nu.U];rw[e1 q (by omega),Option.bind_some,hc,if_neg (by decide)]
   ·obtain⟨q,rfl⟩:∃q,k=q+1:=⟨k-1,by omega⟩;simp only[nT.U];rw[e2 q (by omega),Option.bind_some,hc,if_neg (by decide)]
  |true=>
   have hx:=aas hb hc;obtain⟨⟨K3,e3⟩,⟨K4,e4⟩⟩:=ih (km b i).2.1 (out++[(km b i).1]) (by omega) (by omega) (by omega) (by simp;omega);dsimp only at e3 e4;rw[if_pos rfl];have ea:∀(x:List Int) (y:List (List Int)),out++x::y=(out++[x])++y:=fun x y=>by simp
   rw[ea];refine⟨⟨K1+K3+1,fun k hk=>?_⟩,⟨K2+K4+1,fun k hk=>?_⟩⟩
   ·obtain⟨q,rfl⟩:∃q,k=q+1:=⟨k-1,by omega⟩;simp only[nu.U];rw[e1 q (by omega),Option.bind_some,hc,if_pos rfl,if_pos (by omega),e3 q (by omega)]
   ·obtain⟨q,rfl⟩:∃q,k=q+1:=⟨k-1,by omega⟩;simp only[nT.U];rw[e2 q (by omega),Option.bind_some,hc,if_pos rfl,if_pos (by omega),e4 q (by omega)]
theorem am7 (b:List Int) (hb:cK b) (hn:b.length≤1048576):Ev (fun k=>nu.f k b) (nt b):=by
 exact(ZF b hb hn (b.length+1) 0 [] (by omega) (by omega) (by omega) (by simp)).1
theorem ali (b:List Int) (hb:cK b) (hn:b.length≤1048576):Ev (fun k=>nT.f k b) (nt b):=by
 exact(ZF b hb hn (b.length+1) 0 [] (by omega) (by omega) (by omega) (by simp)).2
section
variable {b:List Int}
theorem ZE (hb:cK b):∀(n:Nat) (i:Int),0≤i→i≤(b.length:Int)→i≤(nX n b i).2∧(nX n b i).2≤(b.length:Int)∧((nX n b i).1.length:Int)≤(nX n b i).2-i∧∀x ∈ (nX n b i).1,x.length≤b.length∧cK x:=by
 intro n
 induction n with
 |zero=>intro i h0 h1;exact⟨Int.le_refl _,h1,by simp[nX],by simp[nX]⟩
 |succ d ih=>
  intro i h0 h1;unfold nX;by_cases hc:(km b i).2.2=true
  ·rw[if_pos hc];have hx:=aas hb hc;obtain⟨a1,a2,a3,a4⟩:=ih (km b i).2.1 (by omega) (by omega);have hl:=anY b i;refine⟨by dsimp only;omega,a2,by dsimp only;rw[List.length_cons];omega,fun x hx=>?_⟩
   rcases List.mem_cons.1 hx with rfl|hx
   ·refine⟨hl,?_⟩;unfold km;split
    ·split
     ·exact Vn _
     ·exact cK.nil
    ·exact cK.nil
   ·exact a4 x hx
  ·rw[if_neg hc];exact⟨Int.le_refl _,h1,by simp,by simp⟩
end
end Go.Proofs.YtingkpnoiekliaaGreat.MZ
end
section
set_option linter.unusedVariables false
set_option linter.unusedSimpArgs false
namespace Go.Proofs.YtingkpnoiekliaaGreat.MZ
open Go.RowKit Go.Proofs.YtingkpnoiekliaaGreat.MZ Go.Proofs.YtingkpnoiekliaaGreatW.PrintWords Go.Proofs.YtingkpnoiekliaaGreatW.PrintLast Go.Proofs.YtingkpnoiekliaaGreatW.PrintMore
abbrev iD (d:ik):Bool:=bR d.f0 d.f1 d.f2 d.f3
def ki:ByteArray:=⟨#[109,101,110,100]⟩
theorem Zb:fv ki=true∧ki.size≤9223372036854775807:=⟨by decide +kernel,by decide +kernel⟩
def fa (d:ik):Prop:=IV d∧Bd d.f0
section
variable {d:ik} {nm tn:ByteArray} {b:List Int} {r:dy}
theorem fa.gd (h:fa d):Gd (fun _=>True) (gy d.f0) d:=⟨h.1,Nat.le_refl _,fun _ _=>trivial,fun _ _=>trivial,h.2⟩
theorem Gd.CC {P:ByteArray→Prop} {m:Nat} (h:Gd P m d):fa d:=⟨h.ok,h.bb⟩
theorem fa.create (h:fa d) (hr:pX d.f0 d.f1 d.f2 d.f3 nm=r):fa (b8 r):=hr▸(h.gd.create trivial).CC
theorem fa.append (h:fa d) (hb:cK b) (hr:nJ d.f0 d.f1 d.f2 d.f3 nm b=r):fa (b8 r):=hr▸(h.gd.append b hb).CC
theorem fa.sync (h:fa d) (hr:nZ d.f0 d.f1 d.f2 d.f3 nm=r):fa (b8 r):=hr▸(h.gd.sync).CC
theorem fa.Lr (h:fa d) (hr:py d.f0 d.f1 d.f2 d.f3=r):fa (b8 r):=hr▸(h.gd.Lr).CC
theorem fa.rename (h:fa d) (hr:qd d.f0 d.f1 d.f2 d.f3 nm tn=r):fa (b8 r):=hr▸(h.gd.rename trivial).CC
theorem fa.remove (h:fa d) (hr:oI d.f0 d.f1 d.f2 d.f3 nm=r):fa (b8 r):=hr▸(h.gd.remove).CC
def step (r:dy) (f:ik→dy):dy:=if r.2.2.2.2=0 then f (b8 r) else r
def CF (d:ik) (nm:ByteArray):dy:=if 0<du d.f1 nm then oI d.f0 d.f1 d.f2 d.f3 nm else (d.f0,d.f1,d.f2,d.f3,0)
def CI (d:ik) (nm:ByteArray) (b:List Int):dy:=step (step (step (CF d nm) (fun d=>pX d.f0 d.f1 d.f2 d.f3 nm)) (fun d=>nJ d.f0 d.f1 d.f2 d.f3 nm b)) (fun d=>nZ d.f0 d.f1 d.f2 d.f3 nm)
def CN (d:ik) (nm:ByteArray) (b:List Int) (tn:ByteArray):dy:=step (step (CI d nm b) (fun d=>qd d.f0 d.f1 d.f2 d.f3 nm tn)) (fun d=>py d.f0 d.f1 d.f2 d.f3)
def N4 (d:ik) (r:dy):dy:=if r.2.2.2.2=0 then r else (d.f0,d.f1,d.f2,d.f3,r.2.2.2.2)
def uT (d:ik) (nm:ByteArray) (b:List Int) (tn:ByteArray):dy:=N4 d (CN d nm b tn)
def tp (d:ik) (nm:ByteArray):dy × List (List Int):=
 if df (iD d) d.f1 nm=0 then
  (if (nt (l9 (iD d) d.f0 d.f1 nm).1).2=((l9 (iD d) d.f0 d.f1 nm).1.length:Int) then ((d.f0,d.f1,d.f2,d.f3,0),(nt (l9 (iD d) d.f0 d.f1 nm).1).1)
   else (uT d ki ((l9 (iD d) d.f0 d.f1 nm).1.take (nt (l9 (iD d) d.f0 d.f1 nm).1).2.toNat) nm,if (uT d ki ((l9 (iD d) d.f0 d.f1 nm).1.take (nt (l9 (iD d) d.f0 d.f1 nm).1).2.toNat) nm).2.2.2.2=0 then (nt (l9 (iD d) d.f0 d.f1 nm).1).1 else []))
 else ((d.f0,d.f1,d.f2,d.f3,df (iD d) d.f1 nm),[])
theorem Le (h:fa d) (hr:CF d nm=r):r.2.2.2.2=0∧fa (b8 r):=by
 subst hr;unfold CF;split
 ·rename_i hc
  rcases look d.f1 nm with ⟨e,he,hn,_⟩|⟨_,h2,_⟩
  ·have e0:=(amz h.1 he hn).1;exact⟨by rw[e0],h.remove rfl⟩
  ·omega
 ·exact⟨rfl,h⟩
theorem step_pos {f:ik→dy} (h:r.2.2.2.2=0):step r f=f (b8 r):=if_pos h
theorem AK {f:ik→dy} (h:¬r.2.2.2.2=0):step r f=r:=if_neg h
theorem fa.step {f:ik→dy} (h:fa (b8 r)) (hf:∀d,fa d→fa (b8 (f d))):fa (b8 (step r f)):=by
 unfold MZ.step;split
 ·exact hf _ h
 ·exact h
theorem ZH (h:fa d) (hb:cK b) (hr:CI d nm b=r):fa (b8 r):=by
 subst hr;unfold CI;exact(((Le h rfl).2.step (fun d h=>h.create rfl)).step (fun d h=>h.append hb rfl)).step (fun d h=>h.sync rfl)
theorem Sh (h:fa d) (hb:cK b) (hr:uT d nm b tn=r):fa (b8 r)∧(¬r.2.2.2.2=0→b8 r=d):=by
 subst hr;unfold uT N4;split
 ·rename_i hc;refine⟨?_,fun h=>absurd hc h⟩;unfold CN;exact((ZH h hb rfl).step (fun d h=>h.rename rfl)).step (fun d h=>h.Lr rfl)
 ·exact⟨h,fun _=>rfl⟩
def Ra (nm:ByteArray) (b:List Int) (tn:ByteArray) (k:Nat) (d:ik):dy:=if k=0 then pX d.f0 d.f1 d.f2 d.f3 nm else if k=1 then nJ d.f0 d.f1 d.f2 d.f3 nm b else if k=2 then nZ d.f0 d.f1 d.f2 d.f3 nm else if k=3 then qd d.f0 d.f1 d.f2 d.f3 nm tn else py d.f0 d.f1 d.f2 d.f3
def chain (d:ik) (nm:ByteArray) (b:List Int) (tn:ByteArray):Nat→dy
 |0=>CF d nm
 |k+1=>step (chain d nm b tn k) (Ra nm b tn k)
theorem afy:chain d nm b tn 5=CN d nm b tn:=rfl
theorem afA {k:Nat} (h:¬(chain d nm b tn k).2.2.2.2=0):∀m,chain d nm b tn (k+m)=chain d nm b tn k:=by
 intro m
 induction m with
 |zero=>rfl
 |succ m ih=>
  show step (chain d nm b tn (k+m)) _=_;rw[ih,AK h]
theorem afz (h:fa d) (hb:cK b):∀k,fa (b8 (chain d nm b tn k)):=by
 intro k
 induction k with
 |zero=>exact(Le h rfl).2
 |succ k ih=>
  refine fa.step ih (fun d h=>?_);unfold Ra
  repeat' split
  ·exact h.create rfl
  ·exact h.append hb rfl
  ·exact h.sync rfl
  ·exact h.rename rfl
  ·exact h.Lr rfl
theorem YE (h:IV d) {e:gO} (he:e ∈ d.f1):0<e.f1:=by
 obtain⟨x,hx,e1⟩:=(h.e1.2.1 e he).2;have:=(h.i1.2 x hx).1;omega
theorem Q7 {L:List (List Int)} (hB:Bd d.f0) (hr:tp d nm=(r,L)) :
 ((iD d=false∨iD d=true∧fv nm=false)∧df (iD d) d.f1 nm=1∧r=(d.f0,d.f1,d.f2,d.f3,1)∧L=[]) ∨
 ((iD d=true∧fv nm=true∧du d.f1 nm=0)∧df (iD d) d.f1 nm=2∧r=(d.f0,d.f1,d.f2,d.f3,2)∧L=[]) ∨
 ((iD d=true∧fv nm=true∧¬du d.f1 nm=0)∧df (iD d) d.f1 nm=0∧∃b n,l9 (iD d) d.f0 d.f1 nm=(b,true)∧cK b∧b.length≤1048576∧n≤b.length∧(∃l,nt b=(l,(n:Int)) ∧
  ((n=b.length∧r=(d.f0,d.f1,d.f2,d.f3,0)∧L=l)∨(n≠b.length∧uT d ki (b.take n) nm=r∧((r.2.2.2.2=0∧L=l)∨(¬r.2.2.2.2=0∧L=[])))))):=by
 by_cases hk:iD d=true
 ·by_cases hn:fv nm=true
  ·have ho:=th.1 hk;have hc:df (iD d) d.f1 nm=if nameAt d.f1 nm<0 then 2 else 0:=by unfold df;rw[hk,hn,if_pos (by decide)]
   rcases look d.f1 nm with ⟨e,he,h1,h2,h3,h4⟩|⟨h1,h2,h3⟩
   ·refine Or.inr (Or.inr ⟨⟨hk,hn,by have:=YE ho he;omega⟩,by rw[hc,if_neg (by omega)],?_⟩);obtain⟨x,hx,hxe⟩:=(ho.e1.2.1 e he).2;have hb:=ae0 ho he h1 hx hxe;have hbi:=hB x hx;have hbl:=ho.small.2 x hx;have hi:=ZE hbi (x.f1.length+1) 0 (by omega) (by omega);obtain⟨n,FG⟩:=Int.eq_ofNat_of_zero_le (show 0≤(nt x.f1).2 from hi.1);have hnl:n≤x.f1.length:=by have:=hi.2.1;unfold nt at FG;omega
    unfold tp at hr;rw[show df (iD d) d.f1 nm=0 by rw[hc,if_neg (by omega)],if_pos rfl,hb,FG]at hr;refine⟨x.f1,n,hb,hbi,hbl,hnl,(nt x.f1).1,by rw[←FG],?_⟩;dsimp only at hr;by_cases hq:(n:Int)=(x.f1.length:Int)
    ·rw[if_pos hq]at hr;injection hr with q1 q2
     exact Or.inl ⟨by omega,q1.symm,q2.symm⟩
    ·rw[if_neg hq]at hr;injection hr with q1 q2
     rw[Int.toNat_natCast]at q1 q2;rw[q1]at q2;refine Or.inr ⟨by omega,q1,?_⟩;by_cases hz:r.2.2.2.2=0
     ·rw[if_pos hz]at q2;exact Or.inl ⟨hz,q2.symm⟩
     ·rw[if_neg hz]at q2;exact Or.inr ⟨hz,q2.symm⟩
   ·have ky:df (iD d) d.f1 nm=2:=by rw[hc,if_pos (by omega)]
    unfold tp at hr;rw[ky,if_neg (by decide)]at hr;injection hr with q1 q2
    exact Or.inr (Or.inl ⟨⟨hk,hn,h2⟩,ky,q1.symm,q2.symm⟩)
  ·have hc:df (iD d) d.f1 nm=1:=by unfold df;rw[hk,Bool.eq_false_iff.2 hn,if_neg (by decide)]
   unfold tp at hr;rw[hc,if_neg (by decide)]at hr;injection hr with q1 q2
   exact Or.inl ⟨Or.inr ⟨hk,Bool.eq_false_iff.2 hn⟩,hc,q1.symm,q2.symm⟩
 ·have hc:df (iD d) d.f1 nm=1:=by unfold df;rw[Bool.eq_false_iff.2 hk,if_neg (by simp)]
  unfold tp at hr;rw[hc,if_neg (by decide)]at hr;injection hr with q1 q2
  exact Or.inl ⟨Or.inl (Bool.eq_false_iff.2 hk),hc,q1.symm,q2.symm⟩
end
end Go.Proofs.YtingkpnoiekliaaGreat.MZ
end
section
namespace Go.Proofs.YtingkpnoiekliaaGreat.MZ
open Go.RowKit Go.Proofs.YtingkpnoiekliaaGreatW.PrintWords Go.Proofs.YtingkpnoiekliaaGreatW.PrintLast Go.Proofs.YtingkpnoiekliaaGreatW.PrintMore Go.Proofs.YtingkpnoiekliaaGreat.MWords Go.Proofs.YtingkpnoiekliaaGreat.MZ
set_option linter.unusedVariables false
set_option linter.unusedSimpArgs false
abbrev mo:Array Value:=#[.slice none 0 0,.slice none 0 0,.slice none 0 0,.int .i64 0]
theorem St.rz {w0 w:World} {bs:List (Nat × Array Value)} {cs:Array Value} {d:Dk} (h:St w0 (Xo w0) bs (Fe w0.heap.size cs d) w):Rz w0 w cs d:=⟨h.ft.mono (fun k hk=>Nat.not_lt.1 hk.1),h.be⟩
set_option maxHeartbeats 8000000 in
set_option maxRecDepth 100000 in
theorem afn {w:World} {cs:Array Value} {d:Dk} {nm:ByteArray} {b:List Int} {A:Option Addr} {c:Nat} {r:dy} (hr:CI d nm b=r) (hd:cO cs d w) (ho:fa d) (hn:nm.size≤9223372036854775807) (jm:cK b) (hl:b.length≤1048576) (gb:Kd.C (Kd.int .u8) w A b.length b) (lb:b.length≤c):Calls Tryz.prog 68 #[.agg cs,.string nm,.slice A b.length c] w (Pd w r):=by
 have HS:=St.start w (Xo w);have h4:=hd.size;obtain⟨r0,e0⟩:∃r,CF d nm=r:=⟨_,rfl⟩;obtain⟨r1,e1⟩:∃r,pX (b8 r0).f0 (b8 r0).f1 (b8 r0).f2 (b8 r0).f3 nm=r:=⟨_,rfl⟩;obtain⟨r2,e2⟩:∃r,nJ (b8 r1).f0 (b8 r1).f1 (b8 r1).f2 (b8 r1).f3 nm b=r:=⟨_,rfl⟩;obtain⟨r3,e3⟩:∃r,nZ (b8 r2).f0 (b8 r2).f1 (b8 r2).f2 (b8 r2).f3 nm=r:=⟨_,rfl⟩;obtain⟨z0,o0⟩:=Le ho e0;have o1:=o0.create e1;have o2:=o1.append jm e2;have s0:=ho.1.small;have s1:=o0.1.small;have s2:=o1.1.small;have s3:=o2.1.small;unfold CI at hr;rw[e0,step_pos z0,e1]at hr
 have key:(r1.2.2.2.2=0∧r2.2.2.2.2=0∧r3=r)∨(r1.2.2.2.2=0∧¬r2.2.2.2.2=0∧r2=r)∨(¬r1.2.2.2.2=0∧r1=r):=by
  by_cases z1:r1.2.2.2.2=0
  ·rw[step_pos z1,e2]at hr;by_cases z2:r2.2.2.2.2=0
   ·rw[step_pos z2,e3]at hr;exact Or.inl ⟨z1,z2,hr⟩
   ·rw[AK z2]at hr;exact Or.inr (Or.inl ⟨z1,z2,hr⟩)
  ·rw[AK z1,AK z1]at hr;exact Or.inr (Or.inr ⟨z1,hr⟩)
 clear hr;replace e1:=J e1;replace e2:=J e2;replace e3:=J e3;replace z0:=J z0;replace o0:=J o0;replace o1:=J o1;replace o2:=J o2;have hid:(0<du d.f1 nm)∨¬(0<du d.f1 nm):=Classical.em _
 rcases hid with hid|hid
 case' inl=>have Ez:oI d.f0 d.f1 d.f2 d.f3 nm=r0:=by rw[←e0];exact(if_pos hid).symm
 case' inr=>have Ez:r0=(d.f0,d.f1,d.f2,d.f3,0):=by rw[←e0];exact if_neg hid
 case' inl=>have hi:(decide (du d.f1 nm>0))=true:=decide_eq_true hid
 case' inr=>have hi:(decide (du d.f1 nm>0))=false:=decide_eq_false hid
 all_goals
  clear hid e0;replace Ez:=J Ez
  rcases key with ⟨y1,y2,rfl⟩|⟨y1,y2,rfl⟩|⟨y1,rfl⟩
 case' inl.inl|inr.inl=>have h1:=beq_iff_eq.2 y1;have h2:=beq_iff_eq.2 y2;clear y2
 case' inl.inr.inl|inr.inr.inl=>have h1:=beq_iff_eq.2 y1;have h2:=beq_eq_false_iff_ne.2 y2;clear y2
 case' inl.inr.inr|inr.inr.inr=>have h1:=beq_eq_false_iff_ne.2 y1
 all_goals
  clear y1;go_enter Tryz.func68,Tryz.ntmps68;go_wp2_with (first|((with_reducible refine aH (N:=3) rfl ?_);refine aT 3 cs 27 ?_;intro g3 hg w1 hx hb;replace HS:=HS.box hg hx hb h4;clear hb hx hg)|((with_reducible refine aH (N:=6) rfl ?_);refine aT 6 mo 27 ?_;intro g6 hg w1 hx hb;replace HS:=HS.box hg hx hb rfl;clear hb hx hg)|((with_reducible refine aH (N:=8) rfl ?_);refine aT 8 mo 27 ?_;intro g8 hg w1 hx hb;replace HS:=HS.box hg hx hb rfl;clear hb hx hg)|(first|refine bu 0 HS ?_|refine bu 1 HS ?_|refine bu 2 HS ?_)|((with_reducible refine ej rfl ?_);(first|refine dQ 0 HS HS.q.cm ?_|refine dQ 1 HS HS.q.cm ?_|refine dQ 0 HS (dO hd HS.be) ?_);intro w1 HT;replace HS:=HT;clear HT;simp only[List.set]at HS)|((with_reducible refine aJ (f:=28) rfl ?_);refine bP Tryz.func28 (Er (nm:=nm) (dO hd HS.be) s0.1) ?_;rintro e w1 ⟨rfl,hb⟩;refine⟨_,rfl,?_⟩;replace HS:=HS.below hb;clear hb)|((with_reducible refine aJ (f:=100) rfl ?_);refine bP Tryz.func100 (afl Ez.1 (dO hd HS.be) s0.1 hn) ?_;rintro e w1 ⟨c1,rfl,hR⟩;refine⟨_,rfl,?_⟩;rw[z0.1];replace HS:=(HS.call hR.2 hR.1 (xO HS.be)).imp (fun _ h=>Fs.low h.2 HS.be.size);clear hR)|((with_reducible refine aJ (f:=101) rfl ?_);(first|refine bP Tryz.func101 (Vx e1.1 HS.q.cm s1.1 hn) ?_|refine bP Tryz.func101 (Vx (d:=b8 r0) e1.1 (by rw[Ez.1];exact dO hd HS.be) s1.1 hn) ?_);rintro e w1 ⟨c2,rfl,hR⟩;refine⟨_,rfl,?_⟩;replace HS:=(HS.call hR.2 hR.1 (xO HS.be)).imp (fun _ h=>Fs.low h.2 HS.be.size);clear hR)|((with_reducible refine aJ (f:=41) rfl ?_);refine bP Tryz.func41 (afi e2.1 HS.q.cm s2.1 hn s2.2 (Nat.le_trans hl (by decide)) (Kd.aw gb HS.be) lb) ?_;rintro e w1 ⟨c3,rfl,hR⟩;refine⟨_,rfl,?_⟩;replace HS:=(HS.call hR.2 hR.1 (xO HS.be)).imp (fun _ h=>Fs.low h.2 HS.be.size);clear hR)|((with_reducible refine aJ (f:=102) rfl ?_);refine bP Tryz.func102 (afp e3.1 HS.q.cm s3.1 hn) ?_;rintro e w1 ⟨c4,rfl,hR⟩;refine⟨_,rfl,?_⟩;replace HS:=(HS.call hR.2 hR.1 (xO HS.be)).imp (fun _ h=>Fs.low h.2 HS.be.size);clear hR))
 all_goals exact bodyPost_ret (hG rfl _ _ g6 27 _ (0,0) _ rfl (HS.bx _ (.tail _ (.head _))).2.2 Tryz.underlying27 rfl (by rw[Tryz.gT,HS.q.size])) rfl ⟨_,rfl,HS.rz⟩
set_option maxHeartbeats 8000000 in
set_option maxRecDepth 100000 in
theorem afo {w:World} {cs:Array Value} {d:Dk} {nm tn:ByteArray} {b:List Int} {A:Option Addr} {c:Nat} {r:dy} (hr:uT d nm b tn=r) (hd:cO cs d w) (ho:fa d) (hn:nm.size≤9223372036854775807) (ht:tn.size≤9223372036854775807) (jm:cK b) (hl:b.length≤1048576) (gb:Kd.C (Kd.int .u8) w A b.length b) (lb:b.length≤c):Calls Tryz.prog 29 #[.agg cs,.string nm,.slice A b.length c,.string tn] w (Pd w r):=by
 have HS:=St.start w (Xo w);have h4:=hd.size;obtain⟨r1,e1⟩:∃r,CI d nm b=r:=⟨_,rfl⟩;obtain⟨r2,e2⟩:∃r,qd (b8 r1).f0 (b8 r1).f1 (b8 r1).f2 (b8 r1).f3 nm tn=r:=⟨_,rfl⟩;obtain⟨r3,e3⟩:∃r,py (b8 r2).f0 (b8 r2).f1 (b8 r2).f2 (b8 r2).f3=r:=⟨_,rfl⟩;have o1:=ZH ho jm e1;have o2:=o1.rename e2;have s0:=ho.1.small;have s1:=o1.1.small;have s2:=o2.1.small;unfold uT CN at hr;rw[e1]at hr
 have key:(r1.2.2.2.2=0∧r2.2.2.2.2=0∧r3.2.2.2.2=0∧r3=r)∨(r1.2.2.2.2=0∧r2.2.2.2.2=0∧¬r3.2.2.2.2=0∧r=(d.f0,d.f1,d.f2,d.f3,r3.2.2.2.2))∨(r1.2.2.2.2=0∧¬r2.2.2.2.2=0∧r=(d.f0,d.f1,d.f2,d.f3,r2.2.2.2.2))∨(¬r1.2.2.2.2=0∧r=(d.f0,d.f1,d.f2,d.f3,r1.2.2.2.2)):=by
  by_cases z1:r1.2.2.2.2=0
  ·rw[step_pos z1,e2]at hr;by_cases z2:r2.2.2.2.2=0
   ·rw[step_pos z2,e3]at hr;by_cases z3:r3.2.2.2.2=0
    ·exact Or.inl ⟨z1,z2,z3,(if_pos z3).symm.trans hr⟩
    ·exact Or.inr (Or.inl ⟨z1,z2,z3,hr.symm.trans (if_neg z3)⟩)
   ·rw[AK z2]at hr;exact Or.inr (Or.inr (Or.inl ⟨z1,z2,hr.symm.trans (if_neg z2)⟩))
  ·rw[AK z1,AK z1]at hr;exact Or.inr (Or.inr (Or.inr ⟨z1,hr.symm.trans (if_neg z1)⟩))
 clear hr;replace e1:=J e1;replace e2:=J e2;replace e3:=J e3;replace o1:=J o1;replace o2:=J o2
 rcases key with ⟨y1,y2,y3,rfl⟩|⟨y1,y2,y3,rfl⟩|⟨y1,y2,rfl⟩|⟨y1,rfl⟩
 case' inl=>have h1:=beq_iff_eq.2 y1;have h2:=beq_iff_eq.2 y2;have h3:=bne_eq_false_iff_eq.2 y3;clear y2 y3
 case' inr.inl=>have h1:=beq_iff_eq.2 y1;have h2:=beq_iff_eq.2 y2;have h3:=bne_iff_ne.2 y3;clear y2 y3
 case' inr.inr.inl=>have h1:=beq_iff_eq.2 y1;have h2:=beq_eq_false_iff_ne.2 y2;have h3:=bne_iff_ne.2 y2;clear y2
 case' inr.inr.inr=>have h1:=beq_eq_false_iff_ne.2 y1;have h3:=bne_iff_ne.2 y1
 all_goals
  clear y1;go_enter Tryz.func29,Tryz.ntmps29;go_wp2_with (first|((with_reducible refine aH (N:=4) rfl ?_);refine aT 4 cs 27 ?_;intro g4 hg w1 hx hb;replace HS:=HS.box hg hx hb h4;clear hb hx hg)|((with_reducible refine aH (N:=8) rfl ?_);refine aT 8 mo 27 ?_;intro g8 hg w1 hx hb;replace HS:=HS.box hg hx hb rfl;clear hb hx hg)|((with_reducible refine aH (N:=10) rfl ?_);refine aT 10 mo 27 ?_;intro g10 hg w1 hx hb;replace HS:=HS.box hg hx hb rfl;clear hb hx hg)|(first|refine bu 0 HS ?_|refine bu 1 HS ?_|refine bu 2 HS ?_)|((with_reducible refine ej rfl ?_);(first|refine dQ 0 HS HS.q.cm ?_|refine dQ 1 HS HS.q.cm ?_);intro w1 HT;replace HS:=HT;clear HT;simp only[List.set]at HS)|((with_reducible refine aJ (f:=68) rfl ?_);refine bP Tryz.func68 (afn e1.1 (dO hd HS.be) ho hn jm hl (Kd.aw gb HS.be) lb) ?_;rintro e w1 ⟨c1,rfl,hR⟩;refine⟨_,rfl,?_⟩;replace HS:=(HS.call hR.2 hR.1 (xO HS.be)).imp (fun _ h=>Fs.low h.2 HS.be.size);clear hR)|((with_reducible refine aJ (f:=69) rfl ?_);refine bP Tryz.func69 (afm e2.1 HS.q.cm s1.1 hn ht) ?_;rintro e w1 ⟨c2,rfl,hR⟩;refine⟨_,rfl,?_⟩;replace HS:=(HS.call hR.2 hR.1 (xO HS.be)).imp (fun _ h=>Fs.low h.2 HS.be.size);clear hR)|((with_reducible refine aJ (f:=70) rfl ?_);refine bP Tryz.func70 (afq e3.1 HS.q.cm s2.1) ?_;rintro e w1 ⟨c3,rfl,hR⟩;refine⟨_,rfl,?_⟩;replace HS:=(HS.call hR.2 hR.1 (xO HS.be)).imp (fun _ h=>Fs.low h.2 HS.be.size);clear hR)|((with_reducible refine aJ (f:=27) rfl ?_);refine bP Tryz.func27 (BM (dO hd HS.be) s0.1) ?_;rintro e w1 ⟨c4,rfl,hR⟩;refine⟨_,rfl,?_⟩;replace HS:=(HS.call hR.2 hR.1 (xO HS.be)).imp (fun _ h=>Fs.low h.2 HS.be.size);clear hR))
 all_goals exact bodyPost_ret (hG rfl _ _ g8 27 _ (0,0) _ rfl (HS.bx _ (.tail _ (.head _))).2.2 Tryz.underlying27 rfl (by rw[Tryz.gT,HS.q.size])) rfl ⟨_,rfl,HS.rz⟩
abbrev Lz (lo hi:Nat) (v:Value) (L:List (List Int)) (W:World):Prop:=Kd.S (Mz.kz 5) 22 W lo (fun k=>lo≤k∧k<hi) v L
abbrev Ly (lo hi:Nat) (v:Value) (L:List (List Int)) (W:World):Prop:=Kd.S (Kd.slice 5 (Kd.int .u8)) 22 W lo (fun k=>lo≤k∧k<hi) v L
theorem VB {w:World} {b:List Int} {A:Option Addr} {c:Nat} {L:List (List Int)} {n:Int} (he:nt b=(L,n)) (jm:cK b) (hl:b.length≤1048576) (gb:Kd.C (Kd.int .u8) w A b.length b) (lb:b.length≤c):Calls Tryz.prog 10 #[.slice A b.length c] w (fun e w'=>∃v,e = .returned (.tuple #[v,.int .i64 n])∧Foot (Lz w.heap.size w'.heap.size v L) w' (fun k=>w.heap.size≤k)∧Below w.heap.size w w'):=by
 obtain⟨K,hk⟩:=ali b jm hl;rw[he]at hk;refine(nT.calls K A c b _ _ w gb lb (hk K (Nat.le_refl _))).mono (fun e w' ⟨v,he,h0,hb⟩=>⟨v,he,?_,hb⟩);exact(uu (Kd.dj (Kd.kS h0) (fun k hk=>⟨hk.2.1,hk.2.2.1⟩))).mono (fun k hk=>hk.1)
theorem amN {w:World} {b:List Int} {A:Option Addr} {c:Nat} {L:List (List Int)} {n:Int} (he:nt b=(L,n)) (jm:cK b) (hl:b.length≤1048576) (gb:Kd.C (Kd.int .u8) w A b.length b) (lb:b.length≤c):Calls Tryz.prog 33 #[.slice A b.length c] w (fun e w'=>∃v,e = .returned (.tuple #[v,.int .i64 n])∧Foot (Ly w.heap.size w'.heap.size v L) w' (fun k=>w.heap.size≤k)∧Below w.heap.size w w'):=by
 obtain⟨K,hk⟩:=am7 b jm hl;rw[he]at hk;refine(nu.calls K A c b _ _ w gb lb (hk K (Nat.le_refl _))).mono (fun e w' ⟨v,he,h0,hb⟩=>⟨v,he,?_,hb⟩);exact(uu (Kd.dj (Kd.kS h0) (fun k hk=>⟨hk.2.1,hk.2.2.1⟩))).mono (fun k hk=>hk.1)
def Pm (w:World) (r:dy) (L:List (List Int)) (e:Ending) (w':World):Prop:=∃cs' v m,e = .returned (.tuple #[.agg cs',v,.int .i64 r.2.2.2.2])∧w.heap.size≤m∧Fs w.heap.size (fun k=>m≤k) cs' (b8 r) w'∧Lz w.heap.size m v L w'∧Below w.heap.size w w'
end Go.Proofs.YtingkpnoiekliaaGreat.MZ
end
