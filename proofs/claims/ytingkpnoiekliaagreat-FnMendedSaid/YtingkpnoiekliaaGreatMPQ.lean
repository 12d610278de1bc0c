/- Records, in plain lists: what is read of bytes, of bytes that are cut behind the records, and with a record more. -/
import Derived.Test.YtingkpnoiekliaaGreatG20
import Derived.Test.YtingkpnoiekliaaGreatMZx17
import Derived.Test.YtingkpnoiekliaaGreatG21
set_option linter.unusedVariables false
set_option linter.unusedSimpArgs false
namespace Go.Proofs.YtingkpnoiekliaaGreat.MZ
open Go.RowKit Go.Proofs.YtingkpnoiekliaaGreat.MZ Go.Proofs.YtingkpnoiekliaaGreatW.PrintWords Go.Proofs.YtingkpnoiekliaaGreatW.PrintLast Go.Proofs.YtingkpnoiekliaaGreatW.PrintMore
theorem Gm (n:Int) (h0:0≤n) (h1:n<2 ^ 63):IntKind.i64.wrap n=n:=by rw[IntKind.wrap_i64];omega
theorem C3 {x:Int} (h0:0≤x) (h1:x<9223372036854775808):Go.bits .and .i64 x 127=x % 128:=by
 have h:=bits_mask .i64 63 (by decide) Gm 7 (by decide) x h0 (by omega);simpa using h
theorem or7 {x y:Int} (h0:0≤x) (h1:x<9223372036854775808) (hx:x % 128=0) (Ez:0≤y) (hy:y<128):Go.bits .or .i64 x y=x+y:=
 bits_join .i64 63 (by decide) Gm 7 x y h0 (by simpa using hx) (by omega) Ez (by omega) (by omega)
theorem alH {y:Int} (Ez:0≤y) (hy:y<128):Go.bits .or .i64 y 128=y+128:=by
 obtain⟨b,rfl⟩:=Int.eq_ofNat_of_zero_le Ez;have h:=(bits_nat .i64 63 (by decide) Gm b 128 (by omega) (by decide)).2;have h2:=Nat.two_pow_add_eq_or_of_lt (i:=7) (b:=b) (by omega) 1;rw[Nat.or_comm]at h2;have h3:Go.bits .or .i64 ((b:Nat):Int) 128=((b ||| 128:Nat):Int):=h;have h4:(b ||| 128:Nat)=128+b:=by simpa using h2.symm
 rw[h3,h4];omega
theorem P7 {x:Int} {s:Int} (j:Nat) (hs:s=(j:Int)) (hj:j≤64):shr .i64 x s=x / 2 ^ j:=by
 subst hs;unfold shr;rw[Int.toNat_natCast,Nat.min_eq_left (by simpa[IntKind.bits] using hj)]
def fG (b:List Int) (at_:Int):Nat→Int→Int→Int × Int × Bool
 |0,_,_=>(0,0,false)
 |d+1,n,k=>if 0≤at_∧at_+k<(b.length:Int) then
  (if k=0∧rd b (at_+k)=128 then (0,0,false) else
   if rd b (at_+k)<128 then (if n*128+rd b (at_+k) % 128>1000000000 then (0,0,false) else (n*128+rd b (at_+k) % 128,at_+k+1,true))
   else fG b at_ d (n*128+rd b (at_+k) % 128) (k+1)) else (0,0,false)
def xr:Nat→Int
 |0=>0
 |k+1=>xr k*128+127
theorem Z5 (k:Nat) (h:k≤5):xr k≤34359738367:=by
 have:k=0∨k=1∨k=2∨k=3∨k=4∨k=5:=by omega
 rcases this with rfl|rfl|rfl|rfl|rfl|rfl<;>decide
theorem AM (b:List Int) (hb:bJ b) (at_:Int):∀(d:Nat) (n k:Int),0≤k→0≤n→(fG b at_ d n k).2.2=true →
 0≤(fG b at_ d n k).1∧(fG b at_ d n k).1≤1000000000∧at_+k+1≤(fG b at_ d n k).2.1∧0≤at_∧(fG b at_ d n k).2.1≤b.length:=by
 intro d
 induction d with
 |zero=>intro n k hk hn h;simp[fG]at h
 |succ d ih=>
  intro n k hk hn h;have hc:=hb (at_+k);unfold fG at h ⊢;by_cases hr:0≤at_∧at_+k<(b.length:Int)
  ·rw[if_pos hr]at h ⊢;by_cases h1:k=0∧rd b (at_+k)=128
   ·rw[if_pos h1]at h;simp at h
   ·rw[if_neg h1]at h ⊢;by_cases h2:rd b (at_+k)<128
    ·rw[if_pos h2]at h ⊢;by_cases h3:n*128+rd b (at_+k) % 128>1000000000
     ·rw[if_pos h3]at h;simp at h
     ·rw[if_neg h3];refine⟨?_,?_,?_,?_,?_⟩<;>first|omega|(dsimp only;omega)
    ·rw[if_neg h2]at h ⊢;obtain⟨a1,a2,a3,a4,a5⟩:=ih _ (k+1) (by omega) (by omega) h;exact⟨a1,a2,by omega,a4,a5⟩
  ·rw[if_neg hr]at h;simp at h
def hU (b:List Int) (at_:Int):ByteArray × Int × Bool:=
 if (fG b at_ 5 0 0).2.2=true then
  (if (fG b at_ 5 0 0).1>(b.length:Int)-(fG b at_ 5 0 0).2.1 then ((⟨#[]⟩:ByteArray),0,false)
   else (strOfNums ((b.take ((fG b at_ 5 0 0).2.1+(fG b at_ 5 0 0).1).toNat).drop ((fG b at_ 5 0 0).2.1).toNat),(fG b at_ 5 0 0).2.1+(fG b at_ 5 0 0).1,true))
 else ((⟨#[]⟩:ByteArray),0,false)
theorem TR (s:ByteArray):bJ (bytesOf s):=by
 apply bJ.vo;intro x hx;simp only[bytesOf,List.mem_map]at hx;obtain⟨b,_,rfl⟩:=hx;have:=b.toNat_lt;omega
theorem ofInt64 (a:Nat) (ha:a<18446744073709551616):(BitVec.ofInt 64 (a:Int)).toNat=a:=by
 rw[BitVec.ofInt_natCast,BitVec.toNat_ofNat];exact Nat.mod_eq_of_lt (by omega)
theorem ofInt32 (a:Nat) (ha:a<4294967296):(BitVec.ofInt 32 (a:Int)).toNat=a:=by
 rw[BitVec.ofInt_natCast,BitVec.toNat_ofNat];exact Nat.mod_eq_of_lt (by omega)
theorem QS (a b:Nat) (ha:a<4294967296) (hb:b<4294967296):Go.bits .xor .i64 (a:Int) (b:Int)=((a ^^^ b:Nat):Int):=by
 have hx:a ^^^ b<2 ^ 32:=Nat.xor_lt_two_pow (by omega) (by omega);show IntKind.i64.wrap ((BitVec.ofInt 64 (a:Int) ^^^ BitVec.ofInt 64 (b:Int)).toNat:Int)=_;rw[BitVec.toNat_xor,ofInt64 a (by omega),ofInt64 b (by omega),IntKind.wrap_i64];omega
theorem QT (a b:Nat) (ha:a<4294967296) (hb:b<4294967296):Go.bits .xor .u32 (a:Int) (b:Int)=((a ^^^ b:Nat):Int):=by
 have hx:a ^^^ b<2 ^ 32:=Nat.xor_lt_two_pow (by omega) (by omega);show IntKind.u32.wrap ((BitVec.ofInt 32 (a:Int) ^^^ BitVec.ofInt 32 (b:Int)).toNat:Int)=_;rw[BitVec.toNat_xor,ofInt32 a ha,ofInt32 b hb,IntKind.wrap_u32];omega
theorem anZ (a:Nat) (v:Int) (ha:a<4294967296) (h0:0≤v) (h1:v<4294967296):Go.bits .xor .i64 (a:Int) v=((a ^^^ v.toNat:Nat):Int):=by
 obtain⟨c,rfl⟩:=Int.eq_ofNat_of_zero_le h0;simpa using QS a c ha (by omega)
theorem aeB (a:Nat) (ha:a<4294967296):Go.bits .and .i64 (a:Int) 1=((a % 2:Nat):Int):=by
 have h:=bits_mask .i64 63 (by decide) Gm 1 (by decide) (a:Int) (by omega) (by omega);have h2:Go.bits .and .i64 (a:Int) 1=(a:Int) % 2:=by simpa using h
 rw[h2];omega
theorem anR (n:Int) (h0:0≤n) (h1:n<2 ^ 32):IntKind.u32.wrap n=n:=by rw[IntKind.wrap_u32];omega
theorem aeC (a:Nat) (ha:a<4294967296):Go.bits .and .u32 (a:Int) 1=((a % 2:Nat):Int):=by
 have h:=bits_mask .u32 32 (by decide) anR 1 (by decide) (a:Int) (by omega) (by omega);have h2:Go.bits .and .u32 (a:Int) 1=(a:Int) % 2:=by simpa using h
 rw[h2];omega
def uO (x:Nat):Nat:=if x % 2=1 then x / 2 ^^^ 2197175160 else x / 2
def Dj:Nat→Nat→Nat
 |0,x=>x
 |n+1,x=>Dj n (uO x)
def Uq (x c:Nat):Nat:=Dj 8 (x ^^^ c)
def Di:List Int→Nat→Nat
 |[],x=>x
 |c::l,x=>Di l (Uq x c.toNat)
def j6 (l:List Int):Int:=((Di l 4294967295 ^^^ 4294967295:Nat):Int)
theorem BZ {a b:Nat} (ha:a<4294967296) (hb:b<4294967296):a ^^^ b<4294967296:=by
 have:=Nat.xor_lt_two_pow (n:=32) (x:=a) (y:=b) (by omega) (by omega);omega
theorem MU {x:Nat} (h:x<4294967296):uO x<4294967296:=by
 unfold uO;split
 ·exact BZ (by omega) (by omega)
 ·omega
theorem HF:∀(n:Nat) {x:Nat},x<4294967296→Dj n x<4294967296
 |0,_,h=>h
 |n+1,_,h=>HF n (MU h)
theorem afx {x c:Nat} (h:x<4294967296) (hc:c<4294967296):Uq x c<4294967296:=HF 8 (BZ h hc)
theorem Ur:∀(l:List Int),(∀c ∈ l,c.toNat<4294967296)→∀ {x:Nat},x<4294967296→Di l x<4294967296
 |[],_,_,h=>h
 |c::l,hl,_,h=>Ur l (fun d hd=>hl d (List.mem_cons_of_mem _ hd)) (afx h (hl c List.mem_cons_self))
theorem amL {l:List Int} (h:∀c ∈ l,c.toNat<4294967296):0≤j6 l∧j6 l≤4294967295:=by
 have:=BZ (Ur l h (x:=4294967295) (by omega)) (b:=4294967295) (by omega);unfold j6;omega
def oq (b:List Int) (at_:Int):Int:=rd b at_*16777216+rd b (at_+1)*65536+rd b (at_+2)*256+rd b (at_+3)
def fV (b:List Int) (at_:Int):List Int × Int × Bool:=
 if 0≤at_∧at_≤(b.length:Int)-4 then
  (if (hU b (at_+4)).2.2=true∧j6 (bytesOf (hU b (at_+4)).1)=oq b at_ then (bytesOf (hU b (at_+4)).1,(hU b (at_+4)).2.1,true) else ([],at_,false))
 else ([],at_,false)
theorem TT (l:List Int) (h:∀x ∈ l,0≤x∧x≤255):bytesOf (strOfNums l)=l:=by
 unfold bytesOf;rw[strOfNums_data,List.map_map]
 conv=>rhs;rw[←List.map_id l]
 apply List.map_congr_left;intro x hx;have:=h x hx;simp only[Function.comp_apply,id_eq]
 have e:(UInt8.ofNat x.toNat).toNat=x.toNat:=by
  rw[UInt8.toNat_ofNat'];omega
 first|(rw[e];omega)|(simp only[UInt8.toNat_ofNat'];omega)
theorem ak3 (b:List Int) (n:Int) (i:Nat) (r:Int) (hi:i<281474976710656):∀(d x j:Nat),j+d=8→x<4294967296→Ev (fun q=>gl.U q ((Dj d x:Nat):Int) b n ((i+1:Nat):Int)) r →
 Ev (fun q=>gl.l1 q (x:Int) b n (i:Int) (j:Int)) r:=by
 intro d
 induction d with
 |zero=>
  intro x j hj hx h;refine Ev.step (f:=fun q=>gl.U q (x:Int) b n ((i+1:Nat):Int)) (fun q=>?_) h;simp only[gl.l1];rw[if_neg (by omega),dO (i:=(i:Int)+1) (by omega) (by omega)];rfl
 |succ d ih=>
  intro x j hj hx h;refine Ev.step (f:=fun q=>gl.l1 q ((uO x:Nat):Int) b n (i:Int) ((j+1:Nat):Int)) (fun q=>?_) (ih (uO x) (j+1) (by omega) (MU hx) h);simp only[gl.l1];have hd:(x:Int) / 2=((x / 2:Nat):Int):=by omega
  rw[if_pos (by omega),aeC x hx,hd,dO (i:=(j:Int)+1) (by omega) (by omega)];have e2:(2197175160:Int)=((2197175160:Nat):Int):=rfl;rw[e2,QT (x / 2) 2197175160 (by omega) (by omega)];unfold uO;by_cases h1:x % 2=1
  ·rw[if_pos h1,if_pos (by omega)];rfl
  ·rw[if_neg h1,if_neg (by omega)];rfl
theorem ak2 (b:List Int) (hb:bJ b) (hn:b.length<281474976710656):∀(d x i:Nat),i+d=b.length→x<4294967296→Ev (fun q=>gl.U q (x:Int) b (b.length:Int) (i:Int)) ((Di (b.drop i) x ^^^ 4294967295:Nat):Int):=by
 intro d
 induction d with
 |zero=>
  intro x i hi hx;rw[List.drop_eq_nil_of_le (by omega)];refine Ev.step (f:=fun _=>some _) (fun q=>?_) (Ev.now _);simp only[gl.U];rw[if_neg (by omega)];have e2:(4294967295:Int)=((4294967295:Nat):Int):=rfl;have hy:=BZ (a:=4294967295) (b:=x) (by omega) hx;rw[e2,QT 4294967295 x (by omega) hx,dO (by omega) (by omega),Nat.xor_comm];rfl
 |succ d ih=>
  intro x i hi hx;have hc:=hb (i:Int);rw[Ux (by omega)];have hcn:rd b (i:Int) % 4294967296=(((rd b (i:Int)).toNat:Nat):Int):=by omega
  have hy:x ^^^ (rd b (i:Int)).toNat<4294967296:=BZ hx (by omega);refine Ev.step (f:=fun q=>gl.l1 q ((x ^^^ (rd b (i:Int)).toNat:Nat):Int) b (b.length:Int) (i:Int) ((0:Nat):Int)) (fun q=>?_) (ak3 b _ i _ (by omega) 8 _ 0 rfl hy (ih _ (i+1) (by omega) (HF 8 hy)));simp only[gl.U];rw[if_pos (by omega),if_pos (by omega),if_pos (by omega),hcn,QT x _ hx (by omega)];rfl
theorem X5 (b:List Int) (hb:bJ b) (hn:b.length<281474976710656):Ev (fun q=>gl.f q b) (j6 b):=
 ak2 b hb hn b.length 4294967295 0 (by omega) (by omega)
theorem akX (b:List Int) (hb:bJ b) (hn:b.length≤281474976710656) (at_:Int) (ha:at_≤9223372036854775807):∀(d:Nat) (n:Int) (k:Nat),k+d=5→0≤n→n≤xr k →
 Ev (fun q=>eF.U q b at_ n (k:Int)) (fG b at_ d n (k:Int)):=by
 intro d
 induction d with
 |zero=>
  intro n k hk h0 h1;refine Ev.step (f:=fun q=>eF.j1 q b at_ n (k:Int) false) (fun q=>?_) (Ev.step (f:=fun _=>some (0,0,false)) (fun q=>?_) (Ev.now _))
  ·simp only[eF.U];rw[if_neg (by omega)]
  ·simp[eF.j1]
 |succ d ih=>
  intro n k hk h0 h1;have ht:=Z5 k (by omega);have hc:=hb (at_+(k:Int));have hl:wrap64 ((b.length:Int)-(k:Int))=(b.length:Int)-(k:Int):=dO (by omega) (by omega);unfold fG;by_cases hr:0≤at_∧at_+(k:Int)<(b.length:Int)
  ·rw[if_pos hr];have hw:wrap64 (at_+(k:Int))=at_+(k:Int):=dO (by omega) (by omega);have hwc:wrap64 (rd b (at_+(k:Int)))=rd b (at_+(k:Int)):=dO (by omega) (by omega);have hwn:wrap64 (n*128)=n*128:=dO (by omega) (by omega);have hmod:Int.tmod (rd b (at_+(k:Int))) 128=rd b (at_+(k:Int)) % 128:=Int.tmod_eq_emod_of_nonneg (by omega);have hws:wrap64 (n*128+rd b (at_+(k:Int)) % 128)=n*128+rd b (at_+(k:Int)) % 128:=dO (by omega) (by omega);refine Ev.step (f:=fun q=>eF.j1 q b at_ n (k:Int) true) (fun q=>?_) ?_
   ·simp only[eF.U];rw[if_pos (by omega),if_pos (by omega),hl,decide_eq_true (by omega)]
   ·by_cases sA:(k:Int)=0∧rd b (at_+(k:Int))=128
    ·rw[if_pos sA];refine Ev.step (f:=fun q=>eF.j2 q b at_ n (k:Int) (rd b (at_+(k:Int))) true) (fun q=>?_) (Ev.step (f:=fun _=>some (0,0,false)) (fun q=>?_) (Ev.now _))
     ·simp only[eF.j1,hw,hwc];rw[if_pos trivial,if_pos (by omega),if_pos (by omega),if_pos sA.1];simp[sA.2]
     ·simp[eF.j2]
    ·rw[if_neg sA];refine Ev.step (f:=fun q=>eF.j2 q b at_ n (k:Int) (rd b (at_+(k:Int))) false) (fun q=>?_) ?_
     ·simp only[eF.j1,hw,hwc];rw[if_pos trivial,if_pos (by omega),if_pos (by omega)];by_cases uT:(k:Int)=0
      ·rw[if_pos uT];have:rd b (at_+(k:Int))≠128:=fun e=>sA ⟨uT,e⟩
       rw[beq_eq_false_iff_ne.2 this]
      ·rw[if_neg uT]
     ·by_cases hlt:rd b (at_+(k:Int))<128
      ·rw[if_pos hlt];refine Ev.step (f:=fun _=>some _) (fun q=>?_) (Ev.now _);simp only[eF.j2,hwn,hmod,hws,hw];rw[if_neg (by simp),if_neg (by omega)];by_cases hg:n*128+rd b (at_+(k:Int)) % 128>1000000000
       ·rw[if_pos hg,if_pos hg]
       ·rw[if_neg hg,if_neg hg,dO (i:=at_+(k:Int)+1) (by omega) (by omega)]
      ·rw[if_neg hlt];have h2:xr (k+1)=xr k*128+127:=rfl;refine Ev.step (f:=fun q=>eF.U q b at_ (n*128+rd b (at_+(k:Int)) % 128) ((k+1:Nat):Int)) (fun q=>?_) ?_
       ·simp only[eF.j2,hwn,hmod,hws];rw[if_neg (by simp),if_pos (by omega),dO (i:=(k:Int)+1) (by omega) (by omega)];rfl
       ·exact ih _ (k+1) (by omega) (by omega) (by omega)
  ·rw[if_neg hr];refine Ev.step (f:=fun q=>eF.j1 q b at_ n (k:Int) false) (fun q=>?_) (Ev.step (f:=fun _=>some (0,0,false)) (fun q=>?_) (Ev.now _))
   ·simp only[eF.U];rw[if_pos (by omega)];by_cases h3:at_≥0
    ·rw[if_pos h3,hl,decide_eq_false (by omega)]
    ·rw[if_neg h3]
   ·simp[eF.j1]
theorem akW (b:List Int) (hb:bJ b) (hn:b.length≤281474976710656) (at_:Int) (ha:at_≤9223372036854775807):Ev (fun q=>eF.f q b at_) (fG b at_ 5 0 0):=
 akX b hb hn at_ ha 5 0 0 rfl (Int.le_refl 0) (Int.le_refl 0)
theorem akY (b:List Int) (hb:bJ b) (hn:b.length≤281474976710656) (at_:Int) (ha:at_≤9223372036854775807):Ev (fun q=>uX.f q b at_) (hU b at_):=by
 obtain⟨K,h⟩:=akW b hb (by omega) at_ ha;dsimp only at h;refine⟨K,fun q hq=>?_⟩;simp only[uX.f];rw[h q hq,Option.bind_some];unfold hU;have hr:=AM b hb at_ 5 0 0 (Int.le_refl 0) (Int.le_refl 0);generalize fG b at_ 5 0 0=g at hr ⊢
 by_cases h1:g.2.2=true
 ·obtain⟨a1,a2,a3,a4,a5⟩:=hr h1;rw[if_pos h1,if_pos h1,dO (i:=(b.length:Int)-g.2.1) (by omega) (by omega)];by_cases h2:g.1>(b.length:Int)-g.2.1
  ·rw[if_pos h2,if_pos h2]
  ·rw[if_neg h2,if_neg h2,dO (i:=g.2.1+g.1) (by omega) (by omega),if_pos (by omega),if_pos (by omega),if_pos (by omega)]
 ·rw[if_neg h1,if_neg h1]
theorem X7 (a b c:Int):rh.f a b c=some (decide (b≤a)&&decide (a≤c)):=by
 unfold rh.f;by_cases h:a≥b
 ·rw[if_pos h,decide_eq_true (show b≤a from h),Bool.true_and]
 ·rw[if_neg h,decide_eq_false (show ¬b≤a from h),Bool.false_and]
theorem Un (s:ByteArray) (h:s.size≤4611686018427387904):tV.f s=some (bytesOf s):=by
 unfold tV.f;rw[if_pos h]
theorem Zl (l:List Int):(strOfNums l).size=l.length:=by simp[strOfNums_size]
theorem Z2 (b:List Int) (i:Int):(hU b i).1.size≤b.length:=by
 unfold hU;split
 ·split
  ·exact Nat.zero_le _
  ·dsimp only;rw[Zl,List.length_drop,List.length_take];omega
 ·exact Nat.zero_le _
theorem OT (m:Nat) {x y:Int} (hm:m≤62) (h0:0≤x) (h1:x<9223372036854775808) (hx:x % 2 ^ m=0) (Ez:0≤y) (hy:y<2 ^ m) (hs:x+y<9223372036854775808):Go.bits .or .i64 x y=x+y:=
 bits_join .i64 63 (by decide) Gm m x y h0 hx (by omega) Ez hy (by omega)
theorem aan (b:List Int) (hb:bJ b) (i:Nat) (hi:i+4≤b.length) (hn:b.length≤281474976710656):qq.f b (i:Int)=some (oq b (i:Int)):=by
 have c0:=hb (i:Int);have c1:=hb ((i:Int)+1);have c2:=hb ((i:Int)+2);have c3:=hb ((i:Int)+3);have w1:wrap64 ((i:Int)+1)=(i:Int)+1:=dO (by omega) (by omega);have w2:wrap64 ((i:Int)+2)=(i:Int)+2:=dO (by omega) (by omega);have w3:wrap64 ((i:Int)+3)=(i:Int)+3:=dO (by omega) (by omega);unfold qq.f;rw[w1,w2,w3,if_pos (by omega),if_pos (by omega),if_pos (by omega),if_pos (by omega),if_pos (by omega),if_pos (by omega),if_pos (by omega),if_pos (by omega)];unfold oq;generalize rd b (i:Int)=a0 at c0
 generalize rd b ((i:Int)+1)=a1 at c1
 generalize rd b ((i:Int)+2)=a2 at c2
 generalize rd b ((i:Int)+3)=a3 at c3
 rw[dO (i:=a0) (by omega) (by omega),dO (i:=a1) (by omega) (by omega),dO (i:=a2) (by omega) (by omega),dO (i:=a3) (by omega) (by omega),dO (i:=a0*16777216) (by omega) (by omega),dO (i:=a1*65536) (by omega) (by omega),dO (i:=a2*256) (by omega) (by omega)];rw[OT 24 (x:=a0*16777216) (y:=a1*65536) (by omega) (by omega) (by omega) (by omega) (by omega) (by omega) (by omega),OT 16 (x:=a0*16777216+a1*65536) (y:=a2*256) (by omega) (by omega) (by omega) (by omega) (by omega) (by omega) (by omega),OT 8 (x:=a0*16777216+a1*65536+a2*256) (y:=a3) (by omega) (by omega) (by omega) (by omega) (by omega) (by omega) (by omega)]
theorem akS (b:List Int) (hb:bJ b) (hn:b.length≤281474976710000) (i:Nat) (hi:i≤281474976710656):Ev (fun k=>iL.f k b (i:Int)) (fV b (i:Int)):=by
 have hw:wrap64 ((b.length:Int)-4)=(b.length:Int)-4:=dO (by omega) (by omega);have Ot:wrap64 ((i:Int)+4)=(i:Int)+4:=dO (by omega) (by omega);simp only[iL.f,X7,hw,Ot,Option.bind_some];unfold fV;by_cases hc:(0:Int)≤(i:Int)∧(i:Int)≤(b.length:Int)-4
 ·rw[if_pos hc];have hd:(decide ((0:Int)≤(i:Int))&&decide ((i:Int)≤(b.length:Int)-4))=true:=by rw[decide_eq_true hc.1,decide_eq_true hc.2];rfl
  have jt:Ev (fun k=>iL.j0 k (i:Int) (hU b ((i:Int)+4)).1 (hU b ((i:Int)+4)).2.1 true) ([],(i:Int),false):=Ev.ends (fun k=>by simp only[iL.j0];rw[if_pos trivial]);refine Ev.congr (f:=fun k=>(uX.f k b ((i:Int)+4)).bind fun Av=>(if Av.2.2=true then ((tV.f Av.1).bind fun t134=>((gl.f k t134).bind fun t137=>((qq.f b (i:Int)).bind fun t138=>(iL.j0 k (i:Int) Av.1 Av.2.1 (t137 != t138))))) else (iL.j0 k (i:Int) Av.1 Av.2.1 true))) (fun k=>by rw[if_pos hd]) ?_;refine Ev.bind' (akY b hb (by omega) ((i:Int)+4) (by omega)) ?_;have hsz:=Z2 b ((i:Int)+4);generalize hU b ((i:Int)+4)=t at jt hsz ⊢
  have hts:t.1.size≤4611686018427387904:=by omega
  have hi4:i+4≤b.length:=by omega
  by_cases ht:t.2.2=true
  ·refine Ev.congr (f:=fun k=>(gl.f k (bytesOf t.1)).bind fun t137=>(iL.j0 k (i:Int) t.1 t.2.1 (t137 != oq b (i:Int)))) (fun k=>by rw[if_pos ht,Un t.1 hts,Option.bind_some,aan b hb i hi4 (by omega)];rfl) ?_;refine Ev.bind' (X5 (bytesOf t.1) (TR t.1) (by rw[TS];omega)) ?_;by_cases hs:j6 (bytesOf t.1)=oq b (i:Int)
   ·rw[if_pos ⟨ht,hs⟩,hs,bne_self_eq_false];refine Ev.ends (fun k=>?_);simp only[iL.j0];rw[if_neg (by decide),Un t.1 hts,Option.bind_some]
   ·rw[if_neg (fun h=>hs h.2),bne_iff_ne.2 hs];exact jt
  ·rw[if_neg (fun h=>ht h.1)];exact Ev.congr (fun k=>by rw[if_neg ht]) jt
 ·rw[if_neg hc]
  have hd:(decide ((0:Int)≤(i:Int))&&decide ((i:Int)≤(b.length:Int)-4))=false:=by
   rw[Bool.and_eq_false_iff];by_cases h:(0:Int)≤(i:Int)
   ·exact .inr (decide_eq_false (fun h2=>hc ⟨h,h2⟩))
   ·exact .inl (decide_eq_false h)
  exact Ev.all (fun k=>by rw[if_neg (by rw[hd];decide)])
theorem amB (b:List Int) (hb:bJ b) (hn:b.length≤281474976710656) (at_:Int) (ha:at_≤9223372036854775807):∀(d:Nat) (n:Int) (k:Nat),k+d=5→0≤n→n≤xr k →
 Ev (fun q=>eI.U q b at_ n (k:Int)) (fG b at_ d n (k:Int)):=by
 intro d
 induction d with
 |zero=>
  intro n k hk h0 h1;refine Ev.step (f:=fun q=>eI.j1 q b at_ n (k:Int) false) (fun q=>?_) (Ev.step (f:=fun _=>some (0,0,false)) (fun q=>?_) (Ev.now _))
  ·simp only[eI.U];rw[if_neg (by omega)]
  ·simp[eI.j1]
 |succ d ih=>
  intro n k hk h0 h1;have ht:=Z5 k (by omega);have hc:=hb (at_+(k:Int));unfold fG;by_cases hr:0≤at_∧at_+(k:Int)<(b.length:Int)
  ·rw[if_pos hr];have hw:wrap64 (at_+(k:Int))=at_+(k:Int):=dO (by omega) (by omega);have hwc:wrap64 (rd b (at_+(k:Int)))=rd b (at_+(k:Int)):=dO (by omega) (by omega);have hwn:wrap64 (n*128)=n*128:=dO (by omega) (by omega);have hand:Go.bits .and .i64 (rd b (at_+(k:Int))) 127=rd b (at_+(k:Int)) % 128:=C3 (by omega) (by omega);have hor:Go.bits .or .i64 (n*128) (rd b (at_+(k:Int)) % 128)=n*128+rd b (at_+(k:Int)) % 128:=or7 (by omega) (by omega) (by omega) (by omega) (by omega);refine Ev.step (f:=fun q=>eI.j1 q b at_ n (k:Int) true) (fun q=>?_) ?_
   ·simp only[eI.U];rw[if_pos (by omega),if_pos (by omega),if_pos (by omega),hw,decide_eq_true hr.2]
   ·by_cases sA:(k:Int)=0∧rd b (at_+(k:Int))=128
    ·rw[if_pos sA];refine Ev.step (f:=fun q=>eI.j2 q b at_ n (k:Int) (rd b (at_+(k:Int))) true) (fun q=>?_) (Ev.step (f:=fun _=>some (0,0,false)) (fun q=>?_) (Ev.now _))
     ·simp only[eI.j1,hw,hwc];rw[if_pos trivial,if_pos (by omega),if_pos (by omega),if_pos sA.1];simp[sA.2]
     ·simp[eI.j2]
    ·rw[if_neg sA];refine Ev.step (f:=fun q=>eI.j2 q b at_ n (k:Int) (rd b (at_+(k:Int))) false) (fun q=>?_) ?_
     ·simp only[eI.j1,hw,hwc];rw[if_pos trivial,if_pos (by omega),if_pos (by omega)];by_cases uT:(k:Int)=0
      ·rw[if_pos uT];have:rd b (at_+(k:Int))≠128:=fun e=>sA ⟨uT,e⟩
       rw[beq_eq_false_iff_ne.2 this]
      ·rw[if_neg uT]
     ·by_cases hlt:rd b (at_+(k:Int))<128
      ·rw[if_pos hlt];refine Ev.step (f:=fun _=>some _) (fun q=>?_) (Ev.now _);simp only[eI.j2,hwn,hand,hor,hw];rw[if_neg (by simp),if_pos hlt];by_cases hg:n*128+rd b (at_+(k:Int)) % 128>1000000000
       ·rw[if_pos hg,if_pos hg]
       ·rw[if_neg hg,if_neg hg,dO (i:=at_+(k:Int)+1) (by omega) (by omega)]
      ·rw[if_neg hlt];have h2:xr (k+1)=xr k*128+127:=rfl;refine Ev.step (f:=fun q=>eI.U q b at_ (n*128+rd b (at_+(k:Int)) % 128) ((k+1:Nat):Int)) (fun q=>?_) ?_
       ·simp only[eI.j2,hwn,hand,hor];rw[if_neg (by simp),if_neg hlt,dO (i:=(k:Int)+1) (by omega) (by omega)];rfl
       ·exact ih _ (k+1) (by omega) (by omega) (by omega)
  ·rw[if_neg hr];refine Ev.step (f:=fun q=>eI.j1 q b at_ n (k:Int) false) (fun q=>?_) (Ev.step (f:=fun _=>some (0,0,false)) (fun q=>?_) (Ev.now _))
   ·simp only[eI.U];rw[if_pos (by omega)];by_cases h3:at_≥0
    ·rw[if_pos h3];by_cases h4:at_<(b.length:Int)
     ·rw[if_pos h4,dO (i:=at_+(k:Int)) (by omega) (by omega),decide_eq_false (by omega)]
     ·rw[if_neg h4]
    ·rw[if_neg h3]
   ·simp[eI.j1]
theorem amA (b:List Int) (hb:bJ b) (hn:b.length≤281474976710656) (at_:Int) (ha:at_≤9223372036854775807):Ev (fun q=>eI.f q b at_) (fG b at_ 5 0 0):=
 amB b hb hn at_ ha 5 0 0 rfl (Int.le_refl 0) (Int.le_refl 0)
theorem amH (b:List Int) (i:Nat) (r:Int) (hi:i<281474976710656):∀(d x j:Nat),j+d=8→x<4294967296→Ev (fun q=>gI.U q b ((Dj d x:Nat):Int) ((i+1:Nat):Int)) r →
 Ev (fun q=>gI.l1 q b (x:Int) (i:Int) (j:Int)) r:=by
 intro d
 induction d with
 |zero=>
  intro x j hj hx h;refine Ev.step (f:=fun q=>gI.U q b (x:Int) ((i+1:Nat):Int)) (fun q=>?_) h;simp only[gI.l1];rw[if_neg (by omega),dO (i:=(i:Int)+1) (by omega) (by omega)];rfl
 |succ d ih=>
  intro x j hj hx h;refine Ev.step (f:=fun q=>gI.l1 q b ((uO x:Nat):Int) (i:Int) ((j+1:Nat):Int)) (fun q=>?_) (ih (uO x) (j+1) (by omega) (MU hx) h);simp only[gI.l1];have hd:(x:Int) / 2=((x / 2:Nat):Int):=by omega
  rw[if_pos (by omega),aeB x hx,hd,dO (i:=(j:Int)+1) (by omega) (by omega)];have e2:(2197175160:Int)=((2197175160:Nat):Int):=rfl;rw[e2,QS (x / 2) 2197175160 (by omega) (by omega)];unfold uO;by_cases h1:x % 2=1
  ·rw[if_pos h1,if_pos (by omega)];rfl
  ·rw[if_neg h1,if_neg (by omega)];rfl
theorem amG (b:List Int) (hb:bJ b) (hn:b.length<281474976710656):∀(d x i:Nat),i+d=b.length→x<4294967296→Ev (fun q=>gI.U q b (x:Int) (i:Int)) ((Di (b.drop i) x ^^^ 4294967295:Nat):Int):=by
 intro d
 induction d with
 |zero=>
  intro x i hi hx;rw[List.drop_eq_nil_of_le (by omega)];refine Ev.step (f:=fun _=>some _) (fun q=>?_) (Ev.now _);simp only[gI.U];rw[if_neg (by omega)];have e2:(4294967295:Int)=((4294967295:Nat):Int):=rfl;rw[e2,QS x 4294967295 hx (by omega)];rfl
 |succ d ih=>
  intro x i hi hx;have hc:=hb (i:Int);rw[Ux (by omega)];have hy:x ^^^ (rd b (i:Int)).toNat<4294967296:=BZ hx (by omega);refine Ev.step (f:=fun q=>gI.l1 q b ((x ^^^ (rd b (i:Int)).toNat:Nat):Int) (i:Int) ((0:Nat):Int)) (fun q=>?_) (amH b i _ (by omega) 8 _ 0 rfl hy (ih _ (i+1) (by omega) (HF 8 hy)));simp only[gI.U];rw[if_pos (by omega),if_pos (by omega),dO (i:=rd b (i:Int)) (by omega) (by omega),anZ x _ hx (by omega) (by omega)];rfl
theorem Zk (b:List Int) (hb:bJ b) (hn:b.length<281474976710656):Ev (fun q=>gI.f q b) (j6 b):=
 amG b hb hn b.length 4294967295 0 (by omega) (by omega)
theorem amt (b:List Int) (hb:bJ b) (hn:b.length≤281474976710656) (i:Int) (hi:i≤9223372036854775807):Ev (fun k=>mc.f k b i) (if 0≤i∧i≤(b.length:Int)-4 then (oq b i,true) else (0,false)):=by
 have hw:wrap64 ((b.length:Int)-4)=(b.length:Int)-4:=dO (by omega) (by omega);simp only[mc.f,hw];by_cases h0:i<0
 ·rw[if_neg (by omega)];refine Ev.ends (fun k=>?_);rw[if_pos h0];simp only[mc.j0];rfl
 by_cases h1:i>(b.length:Int)-4
 ·rw[if_neg (by omega)];refine Ev.ends (fun k=>?_);rw[if_neg h0,decide_eq_true h1];simp only[mc.j0];rfl
 ·rw[if_pos (by omega)];obtain⟨j,rfl⟩:∃j:Nat,i=(j:Int):=⟨i.toNat,by omega⟩;have h:=aan b hb j (by omega) hn;unfold qq.f at h;have w1:wrap64 ((j:Int)+1)=(j:Int)+1:=dO (by omega) (by omega);have w2:wrap64 ((j:Int)+2)=(j:Int)+2:=dO (by omega) (by omega);have w3:wrap64 ((j:Int)+3)=(j:Int)+3:=dO (by omega) (by omega);rw[w1,w2,w3,if_pos (by omega),if_pos (by omega),if_pos (by omega),if_pos (by omega),if_pos (by omega),if_pos (by omega),if_pos (by omega),if_pos (by omega)]at h;refine Ev.ends (fun k=>?_);rw[if_neg h0,decide_eq_false h1];simp only[mc.j0];rw[if_neg (by decide),w1,w2,w3,if_pos (by omega),if_pos (by omega),if_pos (by omega),if_pos (by omega),if_pos (by omega),if_pos (by omega),if_pos (by omega),if_pos (by omega),Option.some.inj h]
theorem afz {b:List Int} (hb:bJ b) (m n:Nat):∀x ∈ (b.take m).drop n,0≤x∧x≤255:=fun x hx=>hb.mem x (List.mem_of_mem_take (List.mem_of_mem_drop hx))
theorem amx (b:List Int) (hb:bJ b) (hn:b.length≤140737488000000) (i:Int) (hi:i≤9223372036854775807):Ev (fun k=>kJ.f k b i) (fV b i):=by
 unfold kJ.f fV;refine Ev.bind' (amt b hb (by omega) i hi) ?_;by_cases hc:0≤i∧i≤(b.length:Int)-4
 ·simp only[hc,and_self,if_true];have Ot:wrap64 (i+4)=i+4:=dO (by omega) (by omega);rw[Ot];refine Ev.bind' (amA b hb (by omega) (i+4) (by omega)) ?_;have hr:=AM b hb (i+4) 5 0 0 (Int.le_refl 0) (Int.le_refl 0);unfold hU;generalize fG b (i+4) 5 0 0=g at hr ⊢
  have jt:Ev (fun k=>kJ.j0 k b i (oq b i) g.1 g.2.1 true) ([],i,false):=Ev.ends (fun k=>by simp only[kJ.j0];rw[if_pos trivial]);by_cases h1:g.2.2=true
  ·obtain⟨a1,a2,a3,a4,a5⟩:=hr h1;simp only[h1,if_true];rw[dO (i:=(b.length:Int)-g.2.1) (by omega) (by omega)];by_cases h2:g.1>(b.length:Int)-g.2.1
   ·rw[decide_eq_true h2,if_pos h2,if_neg (fun h=>by simp at h)];exact jt
   ·rw[decide_eq_false h2,if_neg h2];have hcl:((b.take (g.2.1+g.1).toNat).drop g.2.1.toNat).length≤b.length:=by rw[List.length_drop,List.length_take];omega
    have hci:=afz hb (g.2.1+g.1).toNat g.2.1.toNat;have hbs:=TT _ hci;simp only[true_and];rw[hbs];refine Ev.step (f:=fun k=>(gI.f k ((b.take (g.2.1+g.1).toNat).drop g.2.1.toNat)).bind fun t=>(if t=oq b i then (some ((b.take (g.2.1+g.1).toNat).drop g.2.1.toNat,g.2.1+g.1,true)) else (some (([]:List Int),i,false)))) (fun k=>?_) ?_
    ·simp only[kJ.j0,Option.bind_some];rw[if_neg (by decide),dO (i:=g.2.1+g.1) (by omega) (by omega),if_pos (by omega),if_pos (by omega),if_pos (by omega),if_pos (by rw[List.length_nil];omega),List.nil_append]
    ·refine Ev.bind' (Zk _ (bJ.vo hci) (by omega)) ?_;by_cases hs:j6 ((b.take (g.2.1+g.1).toNat).drop g.2.1.toNat)=oq b i
     ·simp only[hs,if_true];exact Ev.now _
     ·simp only[hs,if_false];exact Ev.now _
  ·simp only[h1,if_false];rw[if_neg (fun h=>by simp at h)];exact jt
 ·simp only[hc,if_false];exact Ev.now _
theorem akR (b:List Int) (hb:bJ b) (hn:b.length≤281474976710000) (i:Int) (h1:i≤9223372036854775807):Ev (fun k=>iL.f k b i) (fV b i):=by
 by_cases hc:0≤i∧i≤(b.length:Int)-4
 ·obtain⟨j,rfl⟩:∃j:Nat,i=(j:Int):=⟨i.toNat,by omega⟩;exact akS b hb hn j (by omega)
 ·have hw:wrap64 ((b.length:Int)-4)=(b.length:Int)-4:=dO (by omega) (by omega);unfold fV;rw[if_neg hc];simp only[iL.f,X7,hw,Option.bind_some]
  have hd:(decide (0≤i)&&decide (i≤(b.length:Int)-4))=false:=by
   rw[Bool.and_eq_false_iff];by_cases h:0≤i
   ·exact .inr (decide_eq_false (fun h2=>hc ⟨h,h2⟩))
   ·exact .inl (decide_eq_false h)
  exact Ev.all (fun k=>by rw[if_neg (by rw[hd];decide)])
theorem ani (b:List Int) (i:Int):(fV b i).1.length≤b.length:=by
 unfold fV;split
 ·split
  ·dsimp only;rw[TS];exact Z2 b (i+4)
  ·exact Nat.zero_le _
 ·exact Nat.zero_le _
def qv (n:Int):List Int:=
 if n<128 then [n % 128] else if n<16384 then [n / 128 % 128+128,n % 128] else if n<2097152 then [n / 16384 % 128+128,n / 128 % 128+128,n % 128]
 else if n<268435456 then [n / 2097152 % 128+128,n / 16384 % 128+128,n / 128 % 128+128,n % 128]
 else [n / 268435456 % 128+128,n / 2097152 % 128+128,n / 16384 % 128+128,n / 128 % 128+128,n % 128]
theorem JG (n:Int):1≤(qv n).length∧(qv n).length≤5:=by unfold qv;(repeat' split)<;>simp
def lq (n:Int):Int:=if n>1000000000 then 1000000000 else if n<0 then 0 else n
theorem Uj (n:Int):0≤lq n∧lq n≤1000000000:=by unfold lq;(repeat' split)<;>omega
theorem ak1 (n:Int) (h0:0≤n) (h1:n≤1000000000) (q:Nat) (out:List Int) (ho:out.length<140737488355328) (s:Nat) (fp:0<s) (hs:s≤28) :
 eG.l1 (q+1) out n (s:Int)=eG.l1 q (out++[n / 2 ^ s % 128+128]) n ((s:Int)-7):=by
 have hp:0≤n / 2 ^ s∧n / 2 ^ s≤n:=⟨Int.ediv_nonneg h0 (Int.le_of_lt (Int.pow_pos (by decide))),Int.ediv_le_self _ h0⟩;simp only[eG.l1];rw[if_pos (by omega),if_pos (by omega),if_pos ho,P7 s rfl (by omega),C3 hp.1 (by omega),dO (by omega) (by omega),dO (by omega) (by omega)];congr 3;omega
theorem akZ (n:Int) (h0:0≤n) (h1:n≤1000000000) (q:Nat) (out:List Int) (ho:out.length<140737488355328):eG.l1 (q+1) out n 0=some (out++[n % 128]):=by
 simp only[eG.l1];rw[if_neg (by omega),if_pos ho,C3 h0 (by omega)];congr 3;omega
theorem ak0 (n:Int) (h0:0≤n) (h1:n≤1000000000) (q:Nat) (out:List Int) (s:Nat) (hs:s≤28) :
 eG.U (q+1) out n (s:Int)=if n / 2 ^ s>127 then eG.U q out n ((s+7:Nat):Int) else eG.l1 q out n (s:Int):=by
 simp only[eG.U];rw[if_pos (by omega),P7 s rfl (by omega),dO (i:=(s:Int)+7) (by omega) (by omega)];rfl
theorem akT (n:Int) (out:List Int) (ho:out.length+5<140737488355328) (q:Nat):eG.f (q+12) out n=some (out++qv (lq n)):=by
 have hc:=Uj n;have e:mx 0 (mn n 1000000000)=lq n:=by unfold mx mn lq;(repeat' split)<;>omega
 unfold eG.f;rw[e];generalize lq n=m at hc
 obtain⟨h0,h1⟩:=hc;have l1:=fun q out ho s fp hs=>ak1 m h0 h1 q out ho s fp hs
 have U:=fun q out s hs=>ak0 m h0 h1 q out s hs
 have en:=fun q out ho=>akZ m h0 h1 q out ho
 unfold qv;rw[show (0:Int)=((0:Nat):Int) from rfl,U (q+11) out 0 (by omega)];by_cases c1:m<128
 ·rw[if_neg (by omega),if_pos c1];exact en (q+10) out (by omega)
 rw[if_pos (by omega),if_neg c1,U (q+10) out 7 (by omega)];by_cases c2:m<16384
 ·rw[if_neg (by omega),if_pos c2,l1 (q+9) out (by omega) 7 (by omega) (by omega)];have:=en (q+8) (out++[m / 2 ^ 7 % 128+128]) (by simp;omega);simpa using this
 rw[if_pos (by omega),if_neg c2,U (q+9) out 14 (by omega)];by_cases c3:m<2097152
 ·rw[if_neg (by omega),if_pos c3,l1 (q+8) out (by omega) 14 (by omega) (by omega)];have a:=l1 (q+7) (out++[m / 2 ^ 14 % 128+128]) (by simp;omega) 7 (by omega) (by omega);have b:=en (q+6) ((out++[m / 2 ^ 14 % 128+128])++[m / 2 ^ 7 % 128+128]) (by simp;omega);have a':eG.l1 (q+8) (out++[m / 2 ^ 14 % 128+128]) m (((14:Nat):Int)-7)=_:=a;rw[a'];have b':eG.l1 (q+7) ((out++[m / 2 ^ 14 % 128+128])++[m / 2 ^ 7 % 128+128]) m (((7:Nat):Int)-7)=_:=b;rw[b'];simp
 rw[if_pos (by omega),if_neg c3,U (q+8) out 21 (by omega)];by_cases c4:m<268435456
 ·rw[if_neg (by omega),if_pos c4,l1 (q+7) out (by omega) 21 (by omega) (by omega)];have a:=l1 (q+6) (out++[m / 2 ^ 21 % 128+128]) (by simp;omega) 14 (by omega) (by omega);have b:=l1 (q+5) ((out++[m / 2 ^ 21 % 128+128])++[m / 2 ^ 14 % 128+128]) (by simp;omega) 7 (by omega) (by omega);have c:=en (q+4) (((out++[m / 2 ^ 21 % 128+128])++[m / 2 ^ 14 % 128+128])++[m / 2 ^ 7 % 128+128]) (by simp;omega);have a':eG.l1 (q+7) (out++[m / 2 ^ 21 % 128+128]) m (((21:Nat):Int)-7)=_:=a;rw[a'];have b':eG.l1 (q+6) ((out++[m / 2 ^ 21 % 128+128])++[m / 2 ^ 14 % 128+128]) m (((14:Nat):Int)-7)=_:=b;rw[b'];have c':eG.l1 (q+5) (((out++[m / 2 ^ 21 % 128+128])++[m / 2 ^ 14 % 128+128])++[m / 2 ^ 7 % 128+128]) m (((7:Nat):Int)-7)=_:=c;rw[c'];simp
 rw[if_pos (by omega),if_neg c4,U (q+7) out 28 (by omega),if_neg (by omega),l1 (q+6) out (by omega) 28 (by omega) (by omega)];have a:=l1 (q+5) (out++[m / 2 ^ 28 % 128+128]) (by simp;omega) 21 (by omega) (by omega);have b:=l1 (q+4) ((out++[m / 2 ^ 28 % 128+128])++[m / 2 ^ 21 % 128+128]) (by simp;omega) 14 (by omega) (by omega);have c:=l1 (q+3) (((out++[m / 2 ^ 28 % 128+128])++[m / 2 ^ 21 % 128+128])++[m / 2 ^ 14 % 128+128]) (by simp;omega) 7 (by omega) (by omega);have d:=en (q+2) ((((out++[m / 2 ^ 28 % 128+128])++[m / 2 ^ 21 % 128+128])++[m / 2 ^ 14 % 128+128])++[m / 2 ^ 7 % 128+128]) (by simp;omega);have a':eG.l1 (q+6) (out++[m / 2 ^ 28 % 128+128]) m (((28:Nat):Int)-7)=_:=a;rw[a'];have b':eG.l1 (q+5) ((out++[m / 2 ^ 28 % 128+128])++[m / 2 ^ 21 % 128+128]) m (((21:Nat):Int)-7)=_:=b;rw[b'];have c':eG.l1 (q+4) (((out++[m / 2 ^ 28 % 128+128])++[m / 2 ^ 21 % 128+128])++[m / 2 ^ 14 % 128+128]) m (((14:Nat):Int)-7)=_:=c;rw[c'];have d':eG.l1 (q+3) ((((out++[m / 2 ^ 28 % 128+128])++[m / 2 ^ 21 % 128+128])++[m / 2 ^ 14 % 128+128])++[m / 2 ^ 7 % 128+128]) m (((7:Nat):Int)-7)=_:=d;rw[d'];simp
theorem akU (n:Int) (out:List Int) (ho:out.length+5<140737488355328):Ev (fun k=>eG.f k out n) (out++qv (lq n)):=
 ⟨12,fun k hk=>by obtain⟨q,rfl⟩:∃q,k=q+12:=⟨k-12,by omega⟩;exact akT n out ho q⟩
theorem wrap_u64 (s:Nat) (h:s≤64):IntKind.u64.wrap ((s:Nat):Int)=(s:Int):=by
 simp only[IntKind.wrap,IntKind.bits,IntKind.signed];simp;omega
theorem amF (n:Int) (h0:0≤n) (h1:n≤1000000000) (q:Nat) (out:List Int) (ho:out.length<140737488355328) (hi:Bool) (s:Nat) (fp:0<s) (hs:s≤28) :
 dq.U (q+2) n out hi (s:Int)=if hi=true∨n / 2 ^ s % 128>0 then dq.U q n (out++[n / 2 ^ s % 128+128]) true ((s:Int)-7) else dq.U q n out hi ((s:Int)-7):=by
 have hp:0≤n / 2 ^ s∧n / 2 ^ s≤n:=⟨Int.ediv_nonneg h0 (Int.le_of_lt (Int.pow_pos (by decide))),Int.ediv_le_self _ h0⟩
 have hj:∀c:Bool,dq.j3 (q+1) n out hi (s:Int) (n / 2 ^ s % 128) c=if c=true then dq.U q n (out++[n / 2 ^ s % 128+128]) true ((s:Int)-7) else dq.U q n out hi ((s:Int)-7):=by
  intro c;simp only[dq.j3];rw[alH (by omega) (by omega),dO (i:=(s:Int)-7) (by omega) (by omega),if_pos ho];have e:(n / 2 ^ s % 128+128) % 256=n / 2 ^ s % 128+128:=by omega
  rw[e]
 simp only[dq.U];rw[if_pos (by omega),wrap_u64 s (by omega),if_pos (by omega),P7 s rfl (by omega),C3 hp.1 (by omega),hj,hj];cases hi with
 |true=>rw[if_pos rfl,if_pos rfl,if_pos (.inl rfl)]
 |false=>
  rw[if_neg (by simp)];by_cases hg:n / 2 ^ s % 128>0
  ·rw[if_pos (decide_eq_true hg),if_pos (.inr hg)]
  ·rw[if_neg (by simp;omega),if_neg (by simp;omega)]
theorem amE (n:Int) (h0:0≤n) (h1:n≤1000000000) (q:Nat) (out:List Int) (hi:Bool) (ho:out.length<140737488355328):dq.U (q+1) n out hi 0=some (out++[n % 128]):=by
 simp only[dq.U];rw[if_neg (by omega),if_pos ho,C3 h0 (by omega)];congr 3;omega
def dp (n:Int) (out:List Int) (hi:Bool) (s:Nat):List Int × Bool:=if hi=true∨n / 2 ^ s % 128>0 then (out++[n / 2 ^ s % 128+128],true) else (out,hi)
theorem Kb (n:Int) (h0:0≤n) (h1:n≤1000000000) (q:Nat) (out:List Int) (ho:out.length<140737488355328) (hi:Bool) (s t:Nat) (fp:0<s) (hs:s≤28) (ht:t+7=s) :
 dq.U (q+2) n out hi (s:Int)=dq.U q n (dp n out hi s).1 (dp n out hi s).2 (t:Int):=by
 rw[amF n h0 h1 q out ho hi s fp hs];have e:(s:Int)-7=(t:Int):=by omega
 rw[e];unfold dp;split<;>rfl
theorem Ka (n:Int) (out:List Int) (hi:Bool) (s:Nat):(dp n out hi s).1.length≤out.length+1:=by unfold dp;split<;>simp
theorem amD (n:Int) (h0:0≤n) (h1:n≤1000000000) (q:Nat) (out:List Int) (ho:out.length+5<140737488355328):dq.U (q+9) n out false 28=some (out++qv n):=by
 have l1:=Ka n out false 28;have l2:=Ka n (dp n out false 28).1 (dp n out false 28).2 21;have l3:=Ka n (dp n (dp n out false 28).1 (dp n out false 28).2 21).1 (dp n (dp n out false 28).1 (dp n out false 28).2 21).2 14;have l4:=Ka n (dp n (dp n (dp n out false 28).1 (dp n out false 28).2 21).1 (dp n (dp n out false 28).1 (dp n out false 28).2 21).2 14).1 (dp n (dp n (dp n out false 28).1 (dp n out false 28).2 21).1 (dp n (dp n out false 28).1 (dp n out false 28).2 21).2 14).2 7;have e1:dq.U (q+9) n out false 28=_:=Kb n h0 h1 (q+7) out (by omega) false 28 21 (by omega) (by omega) rfl;rw[e1,Kb n h0 h1 (q+5) _ (by omega) _ 21 14 (by omega) (by omega) rfl,Kb n h0 h1 (q+3) _ (by omega) _ 14 7 (by omega) (by omega) rfl,Kb n h0 h1 (q+1) _ (by omega) _ 7 0 (by omega) (by omega) rfl];have e2:=amE n h0 h1 q (dp n (dp n (dp n (dp n out false 28).1 (dp n out false 28).2 21).1 (dp n (dp n out false 28).1 (dp n out false 28).2 21).2 14).1 (dp n (dp n (dp n out false 28).1 (dp n out false 28).2 21).1 (dp n (dp n out false 28).1 (dp n out false 28).2 21).2 14).2 7).1 (dp n (dp n (dp n (dp n out false 28).1 (dp n out false 28).2 21).1 (dp n (dp n out false 28).1 (dp n out false 28).2 21).2 14).1 (dp n (dp n (dp n out false 28).1 (dp n out false 28).2 21).1 (dp n (dp n out false 28).1 (dp n out false 28).2 21).2 14).2 7).2 (by omega);refine Eq.trans e2 ?_;congr 1;clear l1 l2 l3 l4 e1 e2;have t (hi:Bool) (o:List Int) (s:Nat) (h:n / 2 ^ s % 128>0):dp n o hi s=(o++[n / 2 ^ s % 128+128],true):=by unfold dp;rw[if_pos (.inr h)]
 have f (o:List Int) (s:Nat) (h:¬n / 2 ^ s % 128>0):dp n o false s=(o,false):=by unfold dp;rw[if_neg (by simp;omega)]
 have y (o:List Int) (s:Nat):dp n o true s=(o++[n / 2 ^ s % 128+128],true):=by unfold dp;rw[if_pos (.inl rfl)]
 unfold qv;by_cases c1:n<128
 ·rw[if_pos c1,f _ 28 (by omega),f _ 21 (by omega),f _ 14 (by omega),f _ 7 (by omega)]
 rw[if_neg c1];by_cases c2:n<16384
 ·rw[if_pos c2,f _ 28 (by omega),f _ 21 (by omega),f _ 14 (by omega),t _ _ 7 (by omega)];simp
 rw[if_neg c2];by_cases c3:n<2097152
 ·rw[if_pos c3,f _ 28 (by omega),f _ 21 (by omega),t _ _ 14 (by omega),y];simp
 rw[if_neg c3];by_cases c4:n<268435456
 ·rw[if_pos c4,f _ 28 (by omega),t _ _ 21 (by omega),y,y];simp
 rw[if_neg c4,t _ _ 28 (by omega),y,y,y];simp
theorem amC (n:Int) (xs:List Int) (ho:xs.length+5<140737488355328):Ev (fun k=>dq.f k xs n) (xs++qv (lq n)):=by
 refine⟨12,fun k hk=>?_⟩;obtain⟨q,rfl⟩:∃q,k=q+12:=⟨k-12,by omega⟩;have hc:=Uj n;have ha:=amD (lq n) hc.1 hc.2;dsimp only;simp only[dq.f,Option.bind_some,List.nil_append,List.length_nil];rw[if_pos (by omega)]
 have hj:∀m,dq.j0 (q+12) m xs=dq.U (q+10) (if m<0 then 0 else m) xs false 28:=by
  intro m;simp only[dq.j0];split<;>simp only[dq.j1]
 rw[hj,hj];unfold lq at ha ⊢;by_cases h1:n>1000000000
 ·rw[if_pos h1]at ha ⊢;rw[if_pos h1,if_neg (by omega)];exact ha (q+1) xs ho
 ·rw[if_neg h1]at ha ⊢;rw[if_neg h1];exact ha (q+1) xs ho
def pz (a:Int):List Int:=[a / 16777216 % 256,a / 65536 % 256,a / 256 % 256,a % 256]
def gi (l:List Int):List Int:=pz (j6 l)++(qv (lq (l.length:Int))++l)
theorem UI (l:List Int):(gi l).length=4+(qv (lq (l.length:Int))).length+l.length:=by
 unfold gi pz;simp;omega
theorem amz (l:List Int) (hb:bJ l) (hn:l.length≤140737488000000):Ev (fun k=>zy.f k l) (gi l):=by
 obtain⟨K1,h1⟩:=Zk l hb (by omega);obtain⟨K2,h2⟩:=amC (l.length:Int) (pz (j6 l)) (by unfold pz;simp);have hl:=JG (lq (l.length:Int));dsimp only at h1 h2;refine⟨K1+K2,fun k hk=>?_⟩;simp only[zy.f,zz.f];rw[h1 k (by omega),Option.bind_some,Option.bind_some];have h2:=h2 k (by omega);unfold pz at h2;rw[h2,Option.bind_some,if_pos (by rw[List.length_append];simp;omega),List.append_assoc];rfl
theorem akV (l:List Int) (hb:bJ l) (hn:l.length≤140737488000000):Ev (fun k=>yO.f k l) (gi l):=by
 obtain⟨K1,h1⟩:=X5 l hb (by omega);obtain⟨K2,h2⟩:=akU (l.length:Int) (pz (j6 l)) (by unfold pz;simp);have hl:=JG (lq (l.length:Int));dsimp only at h1 h2;refine⟨K1+K2,fun k hk=>?_⟩;simp only[yO.f,yP.f];rw[h1 k (by omega),Option.bind_some,Option.bind_some];have h2:=h2 k (by omega);unfold pz at h2;rw[h2,Option.bind_some,if_pos (by rw[List.length_append];simp;omega),List.append_assoc];rfl
theorem FY (p l:List Int) (i:Int) (hi:i=(p.length:Int)) (x:Int) (l':List Int) (h:l=x::l'):rd (p++l) i=x:=by
 subst hi h;rw[FZ,List.getD_eq_getElem?_getD,List.getElem?_append_right (Nat.le_refl _),Nat.sub_self];rfl
theorem amW (p l:List Int) (n:Int) (i:Int) (hi:i=(p.length:Int)) (h0:0≤n) (h1:n<128):hU (p++n::l) i=if n>(l.length:Int) then ((⟨#[]⟩:ByteArray),0,false) else (strOfNums (l.take n.toNat),i+1+n,true):=by
 have hr:rd (p++n::l) (i+0)=n:=FY p (n::l) (i+0) (by omega) n l rfl;have hl:(p++n::l).length=p.length+(l.length+1):=by simp
 have g:fG (p++n::l) i 5 0 0=(n,i+1,true):=by
  unfold fG;rw[hr,if_pos ⟨by omega,by omega⟩,if_neg (by omega),if_pos h1,if_neg (by omega)];have e:0*128+n % 128=n:=by omega
  rw[e];simp
 unfold hU;rw[g,if_pos rfl];dsimp only;by_cases hc:n>(l.length:Int)
 ·rw[if_pos hc,if_pos (by omega)]
 ·rw[if_neg hc,if_neg (by omega)];have e1:(i+1+n).toNat=(p++[n]).length+n.toNat:=by simp;omega
  have e2:(i+1).toNat=(p++[n]).length:=by simp;omega
  have e3:p++n::l=(p++[n])++l:=by simp
  rw[e1,e2,e3,List.take_length_add_append,List.drop_left'];rfl
theorem alF {n:Int} (h0:0≤n) (h1:n<128):qv (lq n)=[n]:=by
 have hc:lq n=n:=by unfold lq;rw[if_neg (by omega),if_neg (by omega)]
 unfold qv;rw[hc,if_pos h1];congr 1;omega
theorem Dz {l:List Int} (h:l.length<128):gi l=pz (j6 l)++(l.length:Int)::l:=by
 unfold gi;rw[alF (by omega) (by omega)];rfl
theorem anK (p rest:List Int) (a b c d:Int) (i:Int) (hi:i=(p.length:Int)):oq (p++a::b::c::d::rest) i=a*16777216+b*65536+c*256+d:=by
 unfold oq;rw[FY p _ i hi a _ rfl];have e1:p++a::b::c::d::rest=(p++[a])++b::c::d::rest:=by simp
 have e2:p++a::b::c::d::rest=(p++[a,b])++c::d::rest:=by simp
 have e3:p++a::b::c::d::rest=(p++[a,b,c])++d::rest:=by simp
 rw[show rd (p++a::b::c::d::rest) (i+1)=b from by rw[e1];exact FY _ _ _ (by simp;omega) b _ rfl,show rd (p++a::b::c::d::rest) (i+2)=c from by rw[e2];exact FY _ _ _ (by simp;omega) c _ rfl,show rd (p++a::b::c::d::rest) (i+3)=d from by rw[e3];exact FY _ _ _ (by simp;omega) d _ rfl]
theorem anj (p l rest:List Int) (a b c d:Int) (i:Int) (hi:i=(p.length:Int)) (hl:l.length<128) (hb:∀x ∈ l,0≤x∧x≤255) :
 fV (p++a::b::c::d::(l.length:Int)::(l++rest)) i=if j6 l=a*16777216+b*65536+c*256+d then (l,i+5+(l.length:Int),true) else ([],i,false):=by
 have hlen:(p++a::b::c::d::(l.length:Int)::(l++rest)).length=p.length+(l.length+rest.length+5):=by simp
 have ht:hU (p++a::b::c::d::(l.length:Int)::(l++rest)) (i+4)=(strOfNums l,i+4+1+(l.length:Int),true):=by
  have e:p++a::b::c::d::(l.length:Int)::(l++rest)=(p++[a,b,c,d])++(l.length:Int)::(l++rest):=by simp
  rw[e,amW (p++[a,b,c,d]) (l++rest) (l.length:Int) (i+4) (by simp;omega) (by omega) (by omega),if_neg (by rw[List.length_append];omega)];rw[Int.toNat_natCast,List.take_left'];rfl
 unfold fV;rw[if_pos ⟨by omega,by omega⟩,ht,anK p _ a b c d i hi];dsimp only;rw[TT l hb];by_cases h:j6 l=a*16777216+b*65536+c*256+d
 ·rw[if_pos ⟨rfl,h⟩,if_pos h];congr 2;omega
 ·rw[if_neg (fun hh=>h hh.2),if_neg h]
theorem agF {s:Int} (h0:0≤s) (h1:s≤4294967295):s / 16777216 % 256*16777216+s / 65536 % 256*65536+s / 256 % 256*256+s % 256=s:=by omega
theorem ank (p l rest:List Int) (i:Int) (hi:i=(p.length:Int)) (hl:l.length<128) (hb:∀x ∈ l,0≤x∧x≤255):fV (p++(gi l++rest)) i=(l,i+5+(l.length:Int),true):=by
 have hs:=amL (l:=l) (fun x hx=>by have:=hb x hx;omega);rw[Dz hl];unfold pz;have e:p++(([j6 l / 16777216 % 256,j6 l / 65536 % 256,j6 l / 256 % 256,j6 l % 256]++(l.length:Int)::l)++rest)=p++(j6 l / 16777216 % 256)::(j6 l / 65536 % 256)::(j6 l / 256 % 256)::(j6 l % 256)::(l.length:Int)::(l++rest):=by simp
 rw[e,anj p l rest _ _ _ _ i hi hl hb,if_pos (agF hs.1 hs.2).symm]
theorem Z1 (b:List Int) (hb:bJ b) (at_:Int) (h:(hU b at_).2.2=true):0≤at_∧at_+1≤(hU b at_).2.1∧(hU b at_).2.1≤(b.length:Int)∧((hU b at_).1.size:Int)+at_+1≤(hU b at_).2.1:=by
 unfold hU at h ⊢;have hr:=AM b hb at_ 5 0 0 (Int.le_refl 0) (Int.le_refl 0);generalize fG b at_ 5 0 0=g at hr h ⊢
 split at h
 ·rename_i c1;obtain⟨a1,a2,a3,a4,a5⟩:=hr c1;rw[if_pos c1];split at h
  ·simp at h
  ·rename_i c2;rw[if_neg c2];dsimp only;rw[Zl,List.length_drop,List.length_take];omega
 ·simp at h
theorem xe (b:List Int) (m:Nat) (i:Int) (h0:0≤i) (h1:i<(m:Int)):rd (b.take m) i=rd b i:=by
 obtain⟨j,rfl⟩:=Int.eq_ofNat_of_zero_le h0;rw[FZ,FZ,List.getD_eq_getElem?_getD,List.getD_eq_getElem?_getD,List.getElem?_take,if_pos (by omega)]
theorem agW (b:List Int) (m:Nat) (at_:Int):∀(d:Nat) (n k:Int),0≤k→(fG (b.take m) at_ d n k).2.2=true→fG b at_ d n k=fG (b.take m) at_ d n k:=by
 intro d
 induction d with
 |zero=>intro n k _ _;rfl
 |succ d ih=>
  intro n k hk h;have hl:(b.take m).length=min m b.length:=List.length_take;unfold fG at h ⊢;by_cases hr:0≤at_∧at_+k<((b.take m).length:Int)
  ·have e:=xe b m (at_+k) (by omega) (by omega);rw[if_pos hr]at h ⊢;rw[if_pos (show 0≤at_∧at_+k<(b.length:Int) by omega)];rw[e]at h ⊢;by_cases h1:k=0∧rd b (at_+k)=128
   ·rw[if_pos h1,if_pos h1]
   ·rw[if_neg h1]at h ⊢;rw[if_neg h1];by_cases h2:rd b (at_+k)<128
    ·rw[if_pos h2,if_pos h2]
    ·rw[if_neg h2]at h ⊢;rw[if_neg h2];exact ih _ _ (by omega) h
  ·rw[if_neg hr]at h;simp at h
theorem agX (b:List Int) (hb:bJ b) (m:Nat) (at_:Int):∀(d:Nat) (n k:Int),0≤k→0≤n→(fG b at_ d n k).2.2=true→(fG b at_ d n k).2.1≤(m:Int)→fG (b.take m) at_ d n k=fG b at_ d n k:=by
 intro d
 induction d with
 |zero=>intro n k _ _ _ _;rfl
 |succ d ih=>
  intro n k hk hn h hm;have hl:(b.take m).length=min m b.length:=List.length_take;have hg:=AM b hb at_ (d+1) n k hk hn h;have hm0:at_+k+1≤(m:Int):=by omega
  clear hg;unfold fG at h hm ⊢;by_cases hr:0≤at_∧at_+k<(b.length:Int)
  ·have hr':at_+k<(m:Int):=by omega
   have e:=xe b m (at_+k) (by omega) hr';rw[if_pos hr]at h hm ⊢;rw[if_pos (show 0≤at_∧at_+k<((b.take m).length:Int) by omega),e];by_cases h1:k=0∧rd b (at_+k)=128
   ·rw[if_pos h1,if_pos h1]
   ·rw[if_neg h1]at h hm ⊢;rw[if_neg h1];by_cases h2:rd b (at_+k)<128
    ·rw[if_pos h2,if_pos h2]
    ·have hc:=hb (at_+k);rw[if_neg h2]at h hm ⊢;rw[if_neg h2];exact ih _ _ (by omega) (by omega) h hm
  ·rw[if_neg hr]at h;simp at h
theorem amX (b:List Int) (hb:bJ b) (m:Nat) (at_:Int) (h:(hU (b.take m) at_).2.2=true):hU b at_=hU (b.take m) at_:=by
 have hl:(b.take m).length=min m b.length:=List.length_take
 have hb':bJ (b.take m):=fun i=>by
  by_cases c:0≤i∧i<(m:Int)
  ·rw[xe b m i c.1 c.2];exact hb i
  ·by_cases c0:0≤i
   ·obtain⟨j,rfl⟩:=Int.eq_ofNat_of_zero_le c0;rw[FZ,List.getD_eq_getElem?_getD,List.getElem?_eq_none (by omega)];exact⟨Int.le_refl 0,by decide⟩
   ·have:rd (b.take m) i=rd (b.take m) 0:=by unfold rd;rw[show i.toNat=(0:Int).toNat by omega]
    rw[this];by_cases c1:0<m
    ·rw[xe b m 0 (Int.le_refl 0) (by omega)];exact hb 0
    ·have:m=0:=by omega
     subst this;simp[rd]
 unfold hU at h ⊢;have hg:=agW b m at_ 5 0 0 (Int.le_refl 0);have hr:=AM (b.take m) hb' at_ 5 0 0 (Int.le_refl 0) (Int.le_refl 0);by_cases c:(fG (b.take m) at_ 5 0 0).2.2=true
 ·rw[hg c];obtain⟨a1,a2,a3,a4,a5⟩:=hr c;generalize fG (b.take m) at_ 5 0 0=g at c h a1 a2 a3 a4 a5
  rw[if_pos c]at h ⊢;rw[if_pos c];by_cases c2:g.1>((b.take m).length:Int)-g.2.1
  ·rw[if_pos c2]at h;simp at h
  ·rw[if_neg c2,if_neg (show ¬g.1>(b.length:Int)-g.2.1 by omega),List.take_take,Nat.min_eq_left (by omega)]
 ·rw[if_neg c]at h;simp at h
theorem amY (b:List Int) (hb:bJ b) (m:Nat) (at_:Int) (h:(hU b at_).2.2=true) (hm:(hU b at_).2.1≤(m:Int)):hU (b.take m) at_=hU b at_:=by
 have hl:(b.take m).length=min m b.length:=List.length_take;unfold hU at h hm ⊢;have hg:=agX b hb m at_ 5 0 0 (Int.le_refl 0) (Int.le_refl 0);have hr:=AM b hb at_ 5 0 0 (Int.le_refl 0) (Int.le_refl 0);by_cases c:(fG b at_ 5 0 0).2.2=true
 ·obtain⟨a1,a2,a3,a4,a5⟩:=hr c;rw[if_pos c]at h hm;by_cases c2:(fG b at_ 5 0 0).1>(b.length:Int)-(fG b at_ 5 0 0).2.1
  ·rw[if_pos c2]at h;simp at h
  ·rw[if_neg c2]at hm;dsimp only at hm;rw[hg c (by omega),if_pos c,if_pos c,if_neg c2,if_neg (by omega),List.take_take,Nat.min_eq_left (by omega)]
 ·rw[if_neg c]at h;simp at h
theorem aao (b:List Int) (m:Nat) (i:Int) (h0:0≤i) (h1:i+4≤(m:Int)):oq (b.take m) i=oq b i:=by
 unfold oq;rw[xe b m i h0 (by omega),xe b m (i+1) (by omega) (by omega),xe b m (i+2) (by omega) (by omega),xe b m (i+3) (by omega) (by omega)]
theorem anl (b:List Int) (hb:bJ b) (m:Nat) (hm:m≤b.length) (i:Int) (h:(fV (b.take m) i).2.2=true):fV b i=fV (b.take m) i:=by
 have hl:(b.take m).length=m:=by rw[List.length_take];omega
 unfold fV at h ⊢;by_cases c:0≤i∧i≤((b.take m).length:Int)-4
 ·rw[if_pos c]at h ⊢;rw[if_pos (show 0≤i∧i≤(b.length:Int)-4 by omega)];have w:=aao b m i c.1 (by omega);rw[w]at h ⊢;by_cases c2:(hU (b.take m) (i+4)).2.2=true∧j6 (bytesOf (hU (b.take m) (i+4)).1)=oq b i
  ·rw[amX b hb m (i+4) c2.1]
  ·rw[if_neg c2]at h;simp at h
 ·rw[if_neg c]at h;simp at h
theorem anm (b:List Int) (hb:bJ b) (m:Nat) (hm:m≤b.length) (i:Int) (h:(fV b i).2.2=true) (hn:(fV b i).2.1≤(m:Int)):fV (b.take m) i=fV b i:=by
 have hl:(b.take m).length=m:=by rw[List.length_take];omega
 unfold fV at h hn ⊢;by_cases c:0≤i∧i≤(b.length:Int)-4
 ·rw[if_pos c]at h hn ⊢;by_cases c2:(hU b (i+4)).2.2=true∧j6 (bytesOf (hU b (i+4)).1)=oq b i
  ·rw[if_pos c2]at hn;dsimp only at hn;have hr:=Z1 b hb (i+4) c2.1;rw[if_pos (show 0≤i∧i≤((b.take m).length:Int)-4 by omega),aao b m i c.1 (by omega),amY b hb m (i+4) c2.1 hn]
  ·rw[if_neg c2]at h;simp at h
 ·rw[if_neg c]at h;simp at h
theorem zJ {b:List Int} (hb:bJ b) {i:Int} (h:(fV b i).2.2=true):0≤i∧i+5≤(fV b i).2.1∧(fV b i).2.1≤(b.length:Int):=by
 unfold fV at h ⊢;split at h
 ·rename_i hc;rw[if_pos hc];split at h
  ·rename_i hs;rw[if_pos hs];have:=Z1 b hb (i+4) hs.1;dsimp only;omega
  ·exact absurd h (by simp)
 ·exact absurd h (by simp)
def iX:Nat→List Int→Int→List (List Int) × Int
 |0,_,i=>([],i)
 |n+1,b,i=>if (fV b i).2.2=true then ((fV b i).1::(iX n b (fV b i).2.1).1,(iX n b (fV b i).2.1).2) else ([],i)
def iF (b:List Int):List (List Int) × Int:=iX (b.length+1) b 0
theorem YU (b:List Int) (hb:bJ b) (hn:b.length≤1048576):∀(n:Nat) (i:Int) (out:List (List Int)),0≤i→i≤(b.length:Int)→(b.length:Int)-i<(n:Int)→(out.length:Int)≤i →
 Ev (fun k=>nI.U k b out i) (out++(iX n b i).1,(iX n b i).2)∧Ev (fun k=>ob.U k b out i) (out++(iX n b i).1,(iX n b i).2):=by
 intro n
 induction n with
 |zero=>intro i out h0 h1 h2 h3;omega
 |succ d ih=>
  intro i out h0 h1 h2 h3;obtain⟨K1,e1⟩:=amx b hb (by omega) i (by omega);obtain⟨K2,e2⟩:=akR b hb (by omega) i (by omega);dsimp only at e1 e2;unfold iX;cases hc:(fV b i).2.2 with
  |false=>
   rw[if_neg (by decide),List.append_nil];refine⟨⟨K1+1,fun k hk=>?_⟩,⟨K2+1,fun k hk=>?_⟩⟩
   ·obtain⟨q,rfl⟩:∃q,k=q+1:=⟨k-1,by omega⟩;simp only[nI.U];rw[e1 q (by omega),Option.bind_some,hc,if_neg (by decide)]
   ·obtain⟨q,rfl⟩:∃q,k=q+1:=⟨k-1,by omega⟩;simp only[ob.U];rw[e2 q (by omega),Option.bind_some,hc,if_neg (by decide)]
  |true=>
   have hx:=zJ hb hc;obtain⟨⟨K3,e3⟩,⟨K4,e4⟩⟩:=ih (fV b i).2.1 (out++[(fV b i).1]) (by omega) (by omega) (by omega) (by simp;omega);dsimp only at e3 e4;rw[if_pos rfl];have ea:∀(x:List Int) (y:List (List Int)),out++x::y=(out++[x])++y:=fun x y=>by simp
   rw[ea];refine⟨⟨K1+K3+1,fun k hk=>?_⟩,⟨K2+K4+1,fun k hk=>?_⟩⟩
   ·obtain⟨q,rfl⟩:∃q,k=q+1:=⟨k-1,by omega⟩;simp only[nI.U];rw[e1 q (by omega),Option.bind_some,hc,if_pos rfl,if_pos (by omega),e3 q (by omega)]
   ·obtain⟨q,rfl⟩:∃q,k=q+1:=⟨k-1,by omega⟩;simp only[ob.U];rw[e2 q (by omega),Option.bind_some,hc,if_pos rfl,if_pos (by omega),e4 q (by omega)]
theorem amv (b:List Int) (hb:bJ b) (hn:b.length≤1048576):Ev (fun k=>nI.f k b) (iF b):=by
 exact(YU b hb hn (b.length+1) 0 [] (by omega) (by omega) (by omega) (by simp)).1
theorem akM (b:List Int) (hb:bJ b) (hn:b.length≤1048576):Ev (fun k=>ob.f k b) (iF b):=by
 exact(YU b hb hn (b.length+1) 0 [] (by omega) (by omega) (by omega) (by simp)).2
section
variable {b:List Int}
theorem J0 (hb:bJ b):∀(n:Nat) (i:Int),0≤i→i≤(b.length:Int)→i≤(iX n b i).2∧(iX n b i).2≤(b.length:Int)∧((iX n b i).1.length:Int)≤(iX n b i).2-i∧∀x ∈ (iX n b i).1,x.length≤b.length∧bJ x:=by
 intro n
 induction n with
 |zero=>intro i h0 h1;exact⟨Int.le_refl _,h1,by simp[iX],by simp[iX]⟩
 |succ d ih=>
  intro i h0 h1;unfold iX;by_cases hc:(fV b i).2.2=true
  ·rw[if_pos hc];have hx:=zJ hb hc;obtain⟨a1,a2,a3,a4⟩:=ih (fV b i).2.1 (by omega) (by omega);have hl:=ani b i;refine⟨by dsimp only;omega,a2,by dsimp only;rw[List.length_cons];omega,fun x hx=>?_⟩
   rcases List.mem_cons.1 hx with rfl|hx
   ·refine⟨hl,?_⟩;unfold fV;split
    ·split
     ·exact TR _
     ·exact bJ.nil
    ·exact bJ.nil
   ·exact a4 x hx
  ·rw[if_neg hc];exact⟨Int.le_refl _,h1,by simp,by simp⟩
theorem YT (hb:bJ b):∀(n m:Nat) (i:Int),0≤i→i≤(b.length:Int)→(b.length:Int)-i<(n:Int)→n≤m→iX m b i=iX n b i:=by
 intro n
 induction n with
 |zero=>intro m i h0 h1 h2;omega
 |succ d ih=>
  intro m i h0 h1 h2 hm;obtain⟨m,rfl⟩:∃q,m=q+1:=⟨m-1,by omega⟩;unfold iX;by_cases hc:(fV b i).2.2=true
  ·have hx:=zJ hb hc;rw[if_pos hc,if_pos hc,ih m _ (by omega) (by omega) (by omega) (by omega)]
  ·rw[if_neg hc,if_neg hc]
theorem alY (hb:bJ b) (m:Nat) (hm:m≤b.length):∀(n:Nat) (i:Int),0≤i→i≤(b.length:Int)→(b.length:Int)-i<(n:Int)→(iX n b i).2=(m:Int)→iX n (b.take m) i=iX n b i:=by
 intro n
 induction n with
 |zero=>intro i h0 h1 h2;omega
 |succ d ih=>
  intro i h0 h1 h2 h3;unfold iX at h3 ⊢;by_cases hc:(fV b i).2.2=true
  ·have hx:=zJ hb hc;rw[if_pos hc]at h3 ⊢;dsimp only at h3;have hi:=J0 hb d (fV b i).2.1 (by omega) (by omega);have e:=anm b hb m hm i hc (by omega);rw[e,if_pos hc,ih _ (by omega) (by omega) (by omega) h3]
  ·rw[if_neg hc]at h3 ⊢;dsimp only at h3;rw[if_neg];intro h;have hl:(b.take m).length=m:=by rw[List.length_take];omega
   have:=zJ (hb.take m) h;omega
theorem al0 (hb:bJ b) {m:Nat} (hm:(iF b).2=(m:Int)):iF (b.take m)=iF b:=by
 have hi:=J0 hb (b.length+1) 0 (by omega) (by omega);have hmb:m≤b.length:=by unfold iF at hm;omega
 have hl:(b.take m).length=m:=by rw[List.length_take];omega
 have h:=alY hb m hmb (b.length+1) 0 (by omega) (by omega) (by omega) hm;unfold iF;rw[hl,←h];exact(YT (hb.take m) (m+1) (b.length+1) 0 (by omega) (by omega) (by omega) (by omega)).symm
theorem alX {l:List Int} (hl:l.length<128) (hx:∀x ∈ l,0≤x∧x≤255) (hb:bJ b) (hB:bJ (b++gi l)):∀(n:Nat) (i:Int),0≤i→i≤(b.length:Int)→(b.length:Int)-i<(n:Int)→(iX n b i).2=(b.length:Int)→iX (n+1) (b++gi l) i=((iX n b i).1++[l],((b++gi l).length:Int)):=by
 intro n;have hfl:(gi l).length=l.length+5:=by rw[Dz hl];unfold pz;simp
 induction n with
 |zero=>intro i h0 h1 h2;omega
 |succ d ih=>
  intro i h0 h1 h2 h3;unfold iX at h3 ⊢;by_cases hc:(fV b i).2.2=true
  ·have hx:=zJ hb hc;rw[if_pos hc]at h3 ⊢
   have e:fV (b++gi l) i=fV b i:=by
    have e1:(b++gi l).take b.length=b:=List.take_left;have:=anl (b++gi l) hB b.length (by simp) i (by rw[e1];exact hc);rw[e1]at this;exact this
   rw[e,if_pos hc,ih _ (by omega) (by omega) (by omega) h3];rfl
  ·rw[if_neg hc]at h3 ⊢;dsimp only at h3;subst h3;have e:=ank b l [] (b.length:Int) rfl hl hx;rw[List.append_nil]at e;rw[e,if_pos rfl];have hL:((b++gi l).length:Int)=(b.length:Int)+5+(l.length:Int):=by rw[List.length_append,hfl];omega
   have hz:iX (d+1) (b++gi l) ((b.length:Int)+5+(l.length:Int))=([],(b.length:Int)+5+(l.length:Int)):=by
    unfold iX;rw[if_neg];intro h;have:=zJ hB h;omega
   dsimp only;rw[hz,hL];rfl
theorem alZ {l:List Int} (hl:l.length<128) (hx:∀x ∈ l,0≤x∧x≤255) (hb:bJ b) (hB:bJ (b++gi l)) (he:(iF b).2=(b.length:Int)):iF (b++gi l)=((iF b).1++[l],((b++gi l).length:Int)):=by
 have hfl:(gi l).length=l.length+5:=by rw[Dz hl];unfold pz;simp
 have hL:(b++gi l).length=b.length+(l.length+5):=by rw[List.length_append,hfl]
 have e:=YT hb (b.length+1) (b++gi l).length 0 (by omega) (by omega) (by omega) (by omega);have h:=alX hl hx hb hB (b++gi l).length 0 (by omega) (by omega) (by omega) (by rw[e];exact he);unfold iF;rw[h,e]
end
theorem UJ {l:List Int} (hl:l.length<128) (hx:∀x ∈ l,0≤x∧x≤255):bJ (gi l):=by
 rw[Dz hl];refine bJ.vo (fun x h=>?_);unfold pz at h
 rcases List.mem_append.1 h with h|h
 ·simp only[List.mem_cons,List.not_mem_nil,or_false]at h;omega
 ·rcases List.mem_cons.1 h with rfl|h
  ·omega
  ·exact hx x h
theorem amu (ds:List aj) (ns ss:List ab) (nx:Int) (nm:ByteArray) (b:List Int) (hn:nm.size≤9223372036854775807) (h:Small ds ns ss) (hd:∀x ∈ ds,x.f1.length≤1048576) (hi:bJ b) (hb:b.length≤100):Ev (fun k=>pP.f k ds ns ss nx nm b) (kg ds ns ss nx nm (gi b)):=by
 have hl:=JG (lq (b.length:Int));have hL:(gi b).length≤1048600:=by rw[UI];omega
 unfold pP.f;exact Ev.bind' (amz b hi (by omega)) (Ev.bind' (Zi ds ns ss nx nm (gi b) hn h hd hL) (Ev.now _))
theorem akJ (ds:List aj) (ns ss:List ab) (nx:Int) (nm:ByteArray) (b:List Int) (hn:nm.size≤9223372036854775807) (h:Small ds ns ss) (hd:∀x ∈ ds,x.f1.length≤1048576) (hi:bJ b) (hb:b.length≤100):Ev (fun k=>pF.f k ds ns ss nx nm b) (kg ds ns ss nx nm (gi b)):=by
 have hl:=JG (lq (b.length:Int));have hL:(gi b).length≤1048600:=by rw[UI];omega
 unfold pF.f;exact Ev.bind' (akV b hi (by omega)) (Ev.bind' (X0 ds ns ss nx nm (gi b) hn h hd hL) (Ev.now _))
end Go.Proofs.YtingkpnoiekliaaGreat.MZ
