-- Written by mp.py, our own printer (wip/mp.py), and made shorter by wip/mp_shrink*.py.
import Derived.Test.YtingkpnoiekliaaGreatVAll
import Derived.Test.YtingkpnoiekliaaGreatMZx13
import Derived.Shelf.SlSortFuncK.WholeK
import Derived.Shelf.GgSortFunc.Tiny
import Derived.Test.YtingkpnoiekliaaGreatG1
namespace Go.Proofs.YtingkpnoiekliaaGreat.MZ
open Go.RowKit Go.Proofs.YtingkpnoiekliaaGreatW.PrintWords Go.Proofs.YtingkpnoiekliaaGreatW.PrintLast Go.Proofs.YtingkpnoiekliaaGreatW.PrintMore Go.Proofs.YtingkpnoiekliaaGreat.MWords
attribute [local go_sem] max2_int min2_int max_two min_two max_three min_three max_four min_four
set_option linter.unusedVariables false
set_option linter.unusedSimpArgs false
def bo.ren:Go.Shelf.Ren:=⟨fun|6=>122|10=>124|11=>125|12=>126|13=>127|14=>128|24=>138|25=>139|26=>140|27=>141|28=>142|29=>143|30=>144|31=>145|32=>146|33=>147|34=>148|35=>149|36=>150|37=>151|38=>152|39=>153|n=>n,fun|20=>20|26=>127|35=>131|0=>0|37=>133|3=>3|41=>125|44=>139|49=>124|51=>145|4=>4|54=>148|53=>147|58=>119|5=>5|9=>9|60=>153|64=>157|66=>159|67=>160|17=>17|32=>128|33=>129|82=>175|12=>12|75=>168|76=>169|77=>170|78=>171|79=>172|80=>173|n=>n,fun|n=>n⟩
theorem bo.laid:Go.Proofs.LaysGg.n6 Tryz.prog bo.ren:={
 mixed:=by kernel_rfl
 f6:=Tryz.func122.trans (congrArg some (by kernel_rfl))
 f10:=Tryz.func124.trans (congrArg some (by kernel_rfl))
 f11:=Tryz.func125.trans (congrArg some (by kernel_rfl))
 f12:=Tryz.func126.trans (congrArg some (by kernel_rfl))
 f13:=Tryz.func127.trans (congrArg some (by kernel_rfl))
 f14:=Tryz.func128.trans (congrArg some (by kernel_rfl))
 f24:=Tryz.func138.trans (congrArg some (by kernel_rfl))
 f25:=Tryz.func139.trans (congrArg some (by kernel_rfl))
 f26:=Tryz.func140.trans (congrArg some (by kernel_rfl))
 f27:=Tryz.func141.trans (congrArg some (by kernel_rfl))
 f28:=Tryz.func142.trans (congrArg some (by kernel_rfl))
 f29:=Tryz.func143.trans (congrArg some (by kernel_rfl))
 f30:=Tryz.func144.trans (congrArg some (by kernel_rfl))
 f31:=Tryz.func145.trans (congrArg some (by kernel_rfl))
 f32:=Tryz.func146.trans (congrArg some (by kernel_rfl))
 f33:=Tryz.func147.trans (congrArg some (by kernel_rfl))
 f34:=Tryz.func148.trans (congrArg some (by kernel_rfl))
 f35:=Tryz.func149.trans (congrArg some (by kernel_rfl))
 f36:=Tryz.func150.trans (congrArg some (by kernel_rfl))
 f37:=Tryz.func151.trans (congrArg some (by kernel_rfl))
 f38:=Tryz.func152.trans (congrArg some (by kernel_rfl))
 f39:=Tryz.func153.trans (congrArg some (by kernel_rfl))
 t0:=Tryz.underlying0
 a0:=Tryz.isAgg0
 z0:=Tryz.sizeOf0
 v0:=Tryz.zeroValue0
 i0:=by kernel_rfl
 t3:=Tryz.underlying3
 a3:=Tryz.isAgg3
 z3:=Tryz.sizeOf3
 v3:=Tryz.zeroValue3
 i3:=by kernel_rfl
 t4:=Tryz.underlying4
 a4:=Tryz.isAgg4
 z4:=Tryz.sizeOf4
 v4:=Tryz.zeroValue4
 i4:=by kernel_rfl
 t5:=Tryz.underlying5
 a5:=Tryz.isAgg5
 z5:=Tryz.sizeOf5
 v5:=Tryz.zeroValue5
 i5:=by kernel_rfl
 t9:=Tryz.underlying9
 a9:=Tryz.isAgg9
 z9:=Tryz.sizeOf9
 v9:=Tryz.zeroValue9
 i9:=by kernel_rfl
 t12:=Tryz.underlying12
 a12:=Tryz.isAgg12
 z12:=Tryz.sizeOf12
 v12:=Tryz.zeroValue12
 i12:=by kernel_rfl
 t17:=Tryz.underlying17
 a17:=Tryz.isAgg17
 z17:=Tryz.sizeOf17
 v17:=Tryz.zeroValue17
 i17:=by kernel_rfl
 t20:=Tryz.underlying20
 a20:=Tryz.isAgg20
 z20:=Tryz.sizeOf20
 v20:=Tryz.zeroValue20
 i20:=by kernel_rfl
 t26:=Tryz.underlying127
 a26:=Tryz.isAgg127
 z26:=Tryz.sizeOf127
 v26:=Tryz.zeroValue127
 i26:=by kernel_rfl
 t32:=Tryz.underlying128
 a32:=Tryz.isAgg128
 z32:=Tryz.sizeOf128
 v32:=Tryz.zeroValue128
 i32:=by kernel_rfl
 t33:=Tryz.underlying129
 a33:=Tryz.isAgg129
 z33:=Tryz.sizeOf129
 v33:=Tryz.zeroValue129
 i33:=by kernel_rfl
 t35:=Tryz.underlying131
 a35:=Tryz.isAgg131
 z35:=Tryz.sizeOf131
 v35:=Tryz.zeroValue131
 i35:=by kernel_rfl
 t37:=Tryz.underlying133
 a37:=Tryz.isAgg133
 z37:=Tryz.sizeOf133
 v37:=Tryz.zeroValue133
 i37:=by kernel_rfl
 t41:=Tryz.underlying125
 a41:=Tryz.isAgg125
 z41:=Tryz.sizeOf125
 v41:=Tryz.zeroValue125
 i41:=by kernel_rfl
 t44:=Tryz.underlying139
 a44:=Tryz.isAgg139
 z44:=Tryz.sizeOf139
 v44:=Tryz.zeroValue139
 i44:=by kernel_rfl
 t49:=Tryz.underlying124
 a49:=Tryz.isAgg124
 z49:=Tryz.sizeOf124
 v49:=Tryz.zeroValue124
 i49:=by kernel_rfl
 t51:=Tryz.underlying145
 a51:=Tryz.isAgg145
 z51:=Tryz.sizeOf145
 v51:=Tryz.zeroValue145
 i51:=by kernel_rfl
 t53:=Tryz.underlying147
 a53:=Tryz.isAgg147
 z53:=Tryz.sizeOf147
 v53:=Tryz.zeroValue147
 i53:=by kernel_rfl
 t54:=Tryz.underlying148
 a54:=Tryz.isAgg148
 z54:=Tryz.sizeOf148
 v54:=Tryz.zeroValue148
 i54:=by kernel_rfl
 t58:=Tryz.underlying119
 a58:=Tryz.isAgg119
 z58:=Tryz.sizeOf119
 v58:=Tryz.zeroValue119
 i58:=by kernel_rfl
 t60:=Tryz.underlying153
 a60:=Tryz.isAgg153
 z60:=Tryz.sizeOf153
 v60:=Tryz.zeroValue153
 i60:=by kernel_rfl
 t64:=Tryz.underlying157
 a64:=Tryz.isAgg157
 z64:=Tryz.sizeOf157
 v64:=Tryz.zeroValue157
 i64:=by kernel_rfl
 t66:=Tryz.underlying159
 a66:=Tryz.isAgg159
 z66:=Tryz.sizeOf159
 v66:=Tryz.zeroValue159
 i66:=by kernel_rfl
 t67:=Tryz.underlying160
 a67:=Tryz.isAgg160
 z67:=Tryz.sizeOf160
 v67:=Tryz.zeroValue160
 i67:=by kernel_rfl
 t75:=Tryz.underlying168
 a75:=Tryz.isAgg168
 z75:=Tryz.sizeOf168
 v75:=Tryz.zeroValue168
 i75:=by kernel_rfl
 t76:=Tryz.underlying169
 a76:=Tryz.isAgg169
 z76:=Tryz.sizeOf169
 v76:=Tryz.zeroValue169
 i76:=by kernel_rfl
 t77:=Tryz.underlying170
 a77:=Tryz.isAgg170
 z77:=Tryz.sizeOf170
 v77:=Tryz.zeroValue170
 i77:=by kernel_rfl
 t78:=Tryz.underlying171
 a78:=Tryz.isAgg171
 z78:=Tryz.sizeOf171
 v78:=Tryz.zeroValue171
 i78:=by kernel_rfl
 t79:=Tryz.underlying172
 a79:=Tryz.isAgg172
 z79:=Tryz.sizeOf172
 v79:=Tryz.zeroValue172
 i79:=by kernel_rfl
 t80:=Tryz.underlying173
 a80:=Tryz.isAgg173
 z80:=Tryz.sizeOf173
 v80:=Tryz.zeroValue173
 i80:=by kernel_rfl
 t82:=Tryz.underlying175
 a82:=Tryz.isAgg175
 z82:=Tryz.sizeOf175
 v82:=Tryz.zeroValue175
 i82:=by kernel_rfl }
noncomputable def bo.tT:TypeInfo:=(Tryz.prog.info? 25).get (by kernel_rfl)
noncomputable def bo.tE:TypeInfo:=(Tryz.prog.info? 89).get (by kernel_rfl)
theorem bo.alO (n:Nat) (h2:2≤n):Go.Lib.swapperK n bo.tE 25=9:=by
 have a:bo.tE.hasPointers=true:=by kernel_rfl
 have b:(bo.tE.bytes == 8)=false:=by kernel_rfl
 have c:(n == 0)=false:=by simp;omega
 have d:(n == 1)=false:=by simp;omega
 simp[Go.Lib.swapperK,a,b,c,d]
theorem bo.alN:Go.Lib.swapperK 1 bo.tE 25=2:=rfl
def bo.enc (x:aa):List Value:=[.string x.f0,.int .i64 x.f1]
def bo.lt (a b:aa):Bool:=Op.bytesLess a.f0.toList b.f0.toList
theorem bo.swo:Go.Sort.SWO bo.lt where
 irrefl:=fun x=>by simp only[bo.lt,bytesLess_eq];exact Go.Sort.swo_ltStr.irrefl _
 trans:=fun x y z=>by simp only[bo.lt,bytesLess_eq];exact Go.Sort.swo_ltStr.trans _ _ _
 ntrans:=fun x y z=>by simp only[bo.lt,bytesLess_eq];exact Go.Sort.swo_ltStr.ntrans _ _ _
instance bo.inh:Inhabited aa:=⟨⟨ByteArray.empty,0⟩⟩
def bo.sort (xs:List aa):List aa:=if 2≤xs.length then (Go.Sort.pdq bo.lt xs.toArray 0 xs.toArray.size (Go.Lib.bitLen xs.toArray.size) true true).toList else xs
def bo.f (l:List aa) (e0:ByteArray) (e1:Int):Option (List aa):=if l.length<5864062014805 then some (bo.sort (l++[(⟨e0,e1⟩:aa)])) else none
set_option maxHeartbeats 2000000 in
theorem bo.less (gp gb db off c size:Nat) (W:World) (F:Nat→ByteArray) (hp:W.cell? ⟨gp,0,none⟩=some (.pointer (some ⟨gb,0,none⟩))) (hs:W.cell? ⟨gb,1,none⟩=some (.slice (some ⟨db,off,none⟩) size c))
 (hc:∀t,t<size→W.cell? ⟨db,off+t*2,none⟩=some (.string (F t))) (i j:Nat) (hi:i<size) (hj:j<size) (_hsz:size<4611686018427387904) :
 Calls Tryz.prog 123 #[.int .i64 i,.int .i64 j,.pointer (some ⟨gp,0,none⟩)] W fun e w'=>e = .returned (.bool (Op.bytesLess (F i).toList (F j).toList))∧∃q,w'=W.drewN q:=by
 have ci:=hc i hi;have cj:=hc j hj;go_enter Tryz.func123,Tryz.ntmps123;go_wp2;go_quiet (fail);go_wp2;go_ret;exact⟨rfl,nq,rfl⟩
theorem bo.V1 (d:Array aa):(Go.Sort.flatK bo.enc 2 d).size=d.size*2:=by simp[Go.Sort.flatK]
theorem bo.holds {w:World} {base db c:Nat} {ok:Nat→Prop} {xs:List aa} (h:Kd.R an 89 w base ok (.slice (some ⟨db,0,none⟩) xs.length c) xs):Go.Sort.HoldsK bo.enc 2 w db 0 xs.toArray:=by
 intro j hj;rw[bo.V1,List.size_toArray]at hj;obtain⟨cs,hcl,hM,hcc,hfr⟩:=Kd.ua h kL ((j / 2:Nat):Int) (by omega) (by omega)
 have hcs:cs=bo.enc (xs.getD (j / 2) kL):=by
  rw[Int.toNat_natCast]at hM;have:=zr hM;simpa[bo.enc] using this
 have hg:=Go.Sort.get_flatK bo.enc 2 xs.toArray j (by rw[List.size_toArray];exact hj)
 have hx:xs.toArray[j / 2]! = xs.getD (j / 2) kL:=by
  have h2:j / 2<xs.length:=by omega
  rw[getElem!_pos xs.toArray (j / 2) (by simpa using h2),List.getD_eq_getElem?_getD,List.getElem?_eq_getElem h2];rfl
 rw[hg,hx];have hd:j=j / 2*2+j % 2:=by omega
 have mi:(⟨db,j,none⟩:Addr)=⟨db,j / 2*2+j % 2,none⟩:=congrArg (fun x=>(⟨db,x,none⟩:Addr)) hd;refine⟨?_,?_⟩
 ·have hlt:j % 2<(bo.enc (xs.getD (j / 2) kL)).length:=by show j % 2<2;omega
  have:=hcc (j % 2) ((bo.enc (xs.getD (j / 2) kL))[j % 2]!) (by rw[hcs,List.getElem?_eq_getElem hlt];exact congrArg some (getElem!_pos (bo.enc (xs.getD (j / 2) kL)) (j % 2) hlt).symm);rw[Int.toNat_natCast]at this;rw[Nat.zero_add];show w.cell? ⟨db,j,none⟩=some _;rw[mi];exact this
 ·have:=hfr (j % 2);rw[Int.toNat_natCast]at this;rw[Nat.zero_add,mi];exact this
theorem bo.two {L:List Value} {i:Nat} {a b:Value} (ha:L[i]? = some a) (hb:L[i+1]? = some b):(L.drop i).take 2=[a,b]:=by
 obtain⟨h1,e1⟩:=List.getElem?_eq_some_iff.1 ha;obtain⟨h2,e2⟩:=List.getElem?_eq_some_iff.1 hb;rw[List.drop_eq_getElem_cons h1,List.drop_eq_getElem_cons h2,e1,e2];rfl
theorem bo.sorted {w:World} {base db c n:Nat} {ok:Nat→Prop} {xs:List aa} (os:Array Obj) (d:Array aa) (hd:d.size=xs.length) (h:Kd.R an 89 w base ok (.slice (some ⟨db,0,none⟩) xs.length c) xs) :
 Kd.R an 89 (Go.Sort.grow (Go.Sort.putRowK bo.enc 2 (Go.Sort.ahead w n) db 0 d) os) base ok (.slice (some ⟨db,0,none⟩) xs.length c) d.toList∧Kept w (Go.Sort.grow (Go.Sort.putRowK bo.enc 2 (Go.Sort.ahead w n) db 0 d) os) (fun k_=>some k_=(Value.slice (some ⟨db,0,none⟩) xs.length c).ownBlock)∧∀W:World,W.heap.size≤base→Below W.heap.size W w→Below W.heap.size W (Go.Sort.grow (Go.Sort.putRowK bo.enc 2 (Go.Sort.ahead w n) db 0 d) os):=by
 obtain⟨h0,inner,ho,hr⟩:=h;obtain⟨hil,ho⟩:=ho
 rcases ho with ⟨he,_⟩|⟨g,cap,cur,he,hb,hh,hnc,hcm,hcs,ht⟩
 ·exact absurd he (by simp)
 injection he with nf J8 wu
 injection nf with nf
 injection nf with nf _ _
 subst nf;subst wu;have hcs:cur.size=c*2:=hcs;have hlt:db<w.heap.size:=(Array.getElem?_eq_some_iff.1 hh).1;have hsz:(Go.Sort.putRowK bo.enc 2 (Go.Sort.ahead w n) db 0 d).heap.size=w.heap.size:=by simp[Go.Sort.putRowK,Go.Sort.putRow,Go.Sort.mapBlock,Go.Sort.ahead]
 have hat:∀k,k<w.heap.size→k≠db→(Go.Sort.grow (Go.Sort.putRowK bo.enc 2 (Go.Sort.ahead w n) db 0 d) os).heap[k]? = w.heap[k]?:=by
  intro k hk hne;show ((Go.Sort.putRowK bo.enc 2 (Go.Sort.ahead w n) db 0 d).heap++os)[k]? = _;rw[Array.getElem?_append_left (by rw[hsz];exact hk)];simp[Go.Sort.putRowK,Go.Sort.putRow,Go.Sort.mapBlock,Go.Sort.ahead,Array.getElem?_modify,Ne.symm hne]
 have hbl:(Go.Sort.grow (Go.Sort.putRowK bo.enc 2 (Go.Sort.ahead w n) db 0 d) os).heap[db]? = some (.cells (Go.Sort.putCells id 0 (Go.Sort.flatK bo.enc 2 d) cur) 89 (0,0)):=by
  show ((Go.Sort.putRowK bo.enc 2 (Go.Sort.ahead w n) db 0 d).heap++os)[db]? = _;rw[Array.getElem?_append_left (by rw[hsz];exact hlt)];simp[Go.Sort.putRowK,Go.Sort.putRow,Go.Sort.mapBlock,Go.Sort.ahead,Array.getElem?_modify,hh,Go.Sort.onCells]
 have hle:w.heap.size≤(Go.Sort.grow (Go.Sort.putRowK bo.enc 2 (Go.Sort.ahead w n) db 0 d) os).heap.size:=by
  show _≤((Go.Sort.putRowK bo.enc 2 (Go.Sort.ahead w n) db 0 d).heap++os).size;rw[Array.size_append,hsz];omega
 have hcell:∀t,t<d.size*2→(Go.Sort.putCells id 0 (Go.Sort.flatK bo.enc 2 d) cur).toList[t]? = some ((bo.enc d[t / 2]!)[t % 2]!):=by
  intro t ht2;have ky:t<cur.size:=by rw[hcs];have:xs.length*2≤c*2:=Nat.mul_le_mul_right _ hnc;omega
  rw[Array.getElem?_toList];simp only[Go.Sort.putCells,Array.getElem?_mapIdx,Array.getElem?_eq_getElem ky,Option.map_some];rw[if_pos ⟨by omega,by rw[bo.V1];omega⟩,Nat.sub_zero,Go.Sort.get_flatK bo.enc 2 d t ht2];rfl
 have hps:(Go.Sort.putCells id 0 (Go.Sort.flatK bo.enc 2 d) cur).toList.length=c*2:=by
  rw[Array.length_toList];simp only[Go.Sort.putCells,Array.size_mapIdx];exact hcs
 have hdl:d.toList.length=xs.length:=by rw[Array.length_toList,hd]
 have FG:xs.length*2≤c*2:=Nat.mul_le_mul_right _ hnc;refine⟨⟨h0,((Go.Sort.putCells id 0 (Go.Sort.flatK bo.enc 2 d) cur).toList.take (xs.length*2)),⟨?_,.inr ⟨db,c,_,by rw[hdl],hb,hbl,by rw[hdl];exact hnc,hcm,by show _=c*2;simp only[Go.Sort.putCells,Array.size_mapIdx];exact hcs,by rw[hdl];rfl⟩⟩,?_,?_⟩,⟨hle,fun i hi hn=>hat i hi (fun e=>hn (by rw[e];rfl))⟩,fun W hWb hB=>?_⟩
 ·show _=d.toList.length*2;rw[List.length_take,hps,hdl];omega
 ·show ((Go.Sort.putCells id 0 (Go.Sort.flatK bo.enc 2 d) cur).toList.take (xs.length*2)).length=d.toList.length*2;rw[List.length_take,hps,hdl];omega
 ·intro j p hj;obtain⟨hjl,hjp⟩:=List.getElem?_eq_some_iff.1 hj;have hjl:j<d.size:=by rw[←Array.length_toList];exact hjl
  have hdj:d[j]! = p:=by rw[getElem!_pos d j hjl,←hjp,Array.getElem_toList]
  have h1:=hcell (j*2) (by omega);have h2:=hcell (j*2+1) (by omega);rw[show j*2 / 2=j by omega,show j*2 % 2=0 by omega,hdj]at h1;rw[show (j*2+1) / 2=j by omega,show (j*2+1) % 2=1 by omega,hdj]at h2;have e:(((Go.Sort.putCells id 0 (Go.Sort.flatK bo.enc 2 d) cur).toList.take (xs.length*2)).drop (j*2)).take 2=[.string p.f0,.int .i64 p.f1]:=bo.two (by rw[List.getElem?_take,if_pos (by omega),h1];rfl) (by rw[List.getElem?_take,if_pos (by omega),h2];rfl);show an.M _ _ _ p ((((Go.Sort.putCells id 0 (Go.Sort.flatK bo.enc 2 d) cur).toList.take (xs.length*2)).drop (j*2)).take 2);rw[e];exact nn _ _ _ p
 ·obtain⟨b1,b2,b3,b4,b5⟩:=hB;exact⟨b1,b2,b3,Nat.le_trans b4 hle,fun k hk=>(hat k (Nat.lt_of_lt_of_le hk b4) (by omega)).trans (b5 k hk)⟩
theorem bo.slice (gp gb db c base:Nat) (u0 u2 u3:Value) (xs:List aa) (ok:Nat→Prop) (w W:World) (hp:w.heap[gp]? = some (.cells #[.pointer (some ⟨gb,0,none⟩)] 97 (0,0))) (hb:w.heap[gb]? = some (.cells #[u0,.slice (some ⟨db,0,none⟩) xs.length c,u2,u3] 27 (0,0)))
 (h:Kd.R an 89 w base ok (.slice (some ⟨db,0,none⟩) xs.length c) xs) (h1:1≤xs.length) (hsz:xs.length<4611686018427387904) (hWb:W.heap.size≤base) (hB:Below W.heap.size W w) :
 Calls Tryz.prog 122 #[.iface 25 (.slice (some ⟨db,0,none⟩) xs.length c),.func (.func 123) #[] #[.pointer (some ⟨gp,0,none⟩)]] w fun e w'=>e = .returned (.tuple #[])∧Kd.R an 89 w' base ok (.slice (some ⟨db,0,none⟩) xs.length c) (bo.sort xs)∧w'.heap[gb]? = some (.cells #[u0,.slice (some ⟨db,0,none⟩) xs.length c,u2,u3] 27 (0,0))∧Below W.heap.size W w'∧Kept w w' (fun k_=>some k_=(Value.slice (some ⟨db,0,none⟩) xs.length c).ownBlock):=by
 have akL:gp≠db:=fun e=>Kd.eL h hp (by decide) (by rw[e];rfl)
 have KC:gb≠db:=fun e=>Kd.eL h hb (by decide) (by rw[e];rfl)
 have hblk:db<w.heap.size:=Kd.eK h db rfl;have hkey:∀w',Kept w w' (fun k_=>some k_=(Value.slice (some ⟨db,0,none⟩) xs.length c).ownBlock)→w'.heap[gb]? = some (.cells #[u0,.slice (some ⟨db,0,none⟩) xs.length c,u2,u3] 27 (0,0)):=fun w' hk=>l8 hb hk (fun e=>KC (by injection e))
 by_cases h2:2≤xs.length
 ·have hH:=bo.holds h
  have hless:LessReadsK Tryz.prog 123 #[.pointer (some ⟨gp,0,none⟩)] bo.enc 2 bo.lt db 0 xs.toArray.size w:=by
   intro m os dk hs i j hi hj
   have e:sortWorldK bo.enc 2 w db 0 m dk os=Go.Sort.putRowK bo.enc 2 (Go.Sort.grow (Go.Sort.ahead w m) os) db 0 dk:=by
    unfold sortWorldK;rw[Go.Sort.putRowK_grow _ _ (Go.Sort.ahead w m) _ db 0 _ hblk]
   have hHg:Go.Sort.HoldsK bo.enc 2 (Go.Sort.grow (Go.Sort.ahead w m) os) db 0 xs.toArray:=Go.Sort.holdsK_grow _ _ _ _ db 0 _ hblk (Go.Sort.holdsK_ahead _ _ _ _ _ _ _ hH);refine bo.less gp gb db 0 c xs.toArray.size _ (fun t=>dk[t]!.f0) ?_ ?_ (fun t ht=>?_) i j hi hj (by rw[List.size_toArray];omega)
   ·rw[e,Go.Sort.cell?_putRowK_other _ _ _ db 0 dk _ (by exact akL),Go.Sort.cell?_grow _ _ _ (by exact eF hp)];exact(bL hp 0).trans rfl
   ·rw[e,Go.Sort.cell?_putRowK_other _ _ _ db 0 dk _ (by exact KC),Go.Sort.cell?_grow _ _ _ (by exact eF hb)];rw[List.size_toArray];exact(bL hb 1).trans rfl
   ·rw[e];exact((Go.Sort.holdsK_putRowK _ _ _ db 0 _ dk hHg hs).cell (i:=t) (c:=0) (by omega) (by omega)).1
  have hS:=Any.sort_Slice_cells_eq bo.laid 25 89 bo.tT bo.tE (by kernel_rfl) (by kernel_rfl) (by kernel_rfl) (by kernel_rfl) 25 (fun _=>by kernel_rfl) bo.enc 2 (fun _=>rfl) (by kernel_rfl) (fun _=>by kernel_rfl)
   (fun x v hv=>by simp[bo.enc]at hv;rcases hv with rfl|rfl<;>rfl) bo.lt bo.swo 123 _
   (enters_of Tryz.func123 (by kernel_rfl) rfl) db 0 c xs.toArray (by rw[List.size_toArray];exact h2) (by rw[List.size_toArray];exact hsz) 137 (by rw[bo.alO _ (by rw[List.size_toArray];exact h2)];kernel_rfl) false
   (fun args W=>run_callFunc_extern Tryz.func137 (by kernel_rfl) (by kernel_rfl) (by kernel_rfl) (e:=Extern.ReflectliteSwapper.swap false) (by kernel_rfl) args W) w hless hH hblk
  rw[List.size_toArray]at hS;change Calls Tryz.prog 122 _ _ _ at hS;refine hS.mono ?_;rintro e w' ⟨rfl,n,os,rfl⟩;have hsort:bo.sort xs=(Go.Sort.pdq bo.lt xs.toArray 0 xs.toArray.size (Go.Lib.bitLen xs.toArray.size) true true).toList:=by unfold bo.sort;rw[if_pos h2]
  have zk:=Go.Sort.pdq_sorts bo.lt bo.swo xs.toArray 0 xs.toArray.size (Go.Lib.bitLen xs.toArray.size) true true (Nat.zero_le _) (Nat.le_refl _) (Or.inl rfl);have hd:(Go.Sort.pdq bo.lt xs.toArray 0 xs.toArray.size (Go.Lib.bitLen xs.toArray.size) true true).size=xs.length:=by rw[zk.1.1,List.size_toArray]
  rw[List.size_toArray]at hd hsort;obtain⟨g1,g2,g3⟩:=bo.sorted (n:=n) os _ hd h;exact⟨rfl,by rw[hsort];exact g1,hkey _ g2,g3 W hWb hB,g2⟩
 ·have hone:xs.length=1:=by omega
  have hS:=Any.sort_Slice_tiny bo.laid 25 89 bo.tT bo.tE (by kernel_rfl) (by kernel_rfl) (by kernel_rfl) (by kernel_rfl) 25 (fun _=>by kernel_rfl) (some ⟨db,0,none⟩) xs.length c (by omega) 130 (by rw[hone,bo.alN];kernel_rfl) (.func 123) #[] #[.pointer (some ⟨gp,0,none⟩)] w;change Calls Tryz.prog 122 _ _ _ at hS;refine hS.mono ?_;rintro e w' ⟨rfl,os,rfl⟩;have eO:Below w.heap.size w (Go.Sort.grow w os):=⟨rfl,rfl,rfl,by show _≤(w.heap++os).size;rw[Array.size_append];omega,fun k hk=>by show (w.heap++os)[k]? = _;exact Array.getElem?_append_left hk⟩;exact⟨rfl,by rw[show bo.sort xs=xs from by unfold bo.sort;rw[if_neg h2]];exact Kd.bD h eO,bg hb eO,ar hB eO,Kept.nr eO _⟩
def bo.T1:Bool × List (List Nat × List Nat):=(true,[([],[]),([],[]),([1],[1]),([2],[2]),([3],[3]),([],[]),([5],[5]),([4,6],[4,6]),([0,0,1,2,3,4,5,6,7],[0]),([8,0,1,2,3,4,5,6,7],[8]),([9,7,7,0,1,2,3,4,5,6,7],[7,9])])
def bo.B1:List Nat:=[0,0,2,6,14,0,32,126,255,511,1023]
theorem bo.qX:ez .any (opsOf Tryz.f105 1)=bo.T1:=by kernel_rfl
theorem bo.qG:jr bo.T1.2 bo.B1=true:=by kernel_rfl
set_option maxHeartbeats 8000000 in
set_option maxRecDepth 100000 in
theorem bo.calls (gb:Nat) (u0 u2 u3:Value) (A0:Option Addr) (c0:Nat) (U:List aa) (e0:ByteArray) (e1:Int) (r:List aa) (okv:Nat→Prop) (w W:World) (hB:Below W.heap.size W w) (hge:W.heap.size≤gb) (hbk:w.heap[gb]? = some (.cells #[u0,(.slice A0 U.length c0),u2,u3] 27 (0,0))) (hN:Kd.R an 89 w W.heap.size okv (.slice A0 U.length c0) U) (h:bo.f U e0 e1=some r) :
 Calls Tryz.prog 105 #[.pointer (some ⟨gb,0,none⟩),.agg #[.string e0,.int .i64 e1]] w fun e w'=>∃v0:Value,e = .returned (.tuple #[])∧Kd.R an 89 w' W.heap.size (fun k_=>some k_=((.slice A0 U.length c0):Value).ownBlock∨w.heap.size≤k_) v0 r∧w'.heap[gb]? = some (.cells #[u0,v0,u2,u3] 27 (0,0))∧Below W.heap.size W w'∧Kept w w' (fun k_=>k_=gb∨some k_=((.slice A0 U.length c0):Value).ownBlock):=by
 unfold bo.f at h;split at h
 case isFalse=>exact absurd h (by simp)
 rename_i hlm;obtain rfl:=Option.some.inj h;clear h;have LM:=J hlm;have HBW:=J hB;have mF:=J hN;have HB:=J (Below.refl w.heap.size w);have gB:=J hbk;clear hlm hB hN hbk;go_enter Tryz.func105,Tryz.ntmps105;go_wp2_with (first|((with_reducible refine aH (N:=2) rfl ?_);refine aT 2 #[.pointer (some ⟨gb,0,none⟩)] 97 ?_;intro gp hg wA hbox hb;have BKgp:=J hbox;have GEgp:=J ((by rw[hg];exact bl (mH HB.1)):w.heap.size≤gp);replace HB:=J (ar (mH HB.1) hb);clear hb hbox hg)|((with_reducible refine aH (N:=3) rfl ?_);refine aT 3 #[.string e0,.int .i64 e1] 89 ?_;intro ge hg wB hbox hb;have BKge:=J hbox;have GEge:=J ((by rw[hg];exact bl (mH HB.1)):w.heap.size≤ge);replace BKgp:=J (bg (mK BKgp.1) hb);replace HB:=J (ar (mH HB.1) hb);clear hb hbox hg));have HN:=J (Kd.lZ (Kd.bD (Kd.oZ (ok:=(fun k_=>some k_=((.slice A0 U.length c0):Value).ownBlock∨w.heap.size≤k_)) rfl mF.1 (fun k_ e_=>.inl e_.symm)) HB.1));have BKb:=J (fc (bg gB.1 HB.1));replace BKgp:=J (fc BKgp.1);replace BKge:=J (fc BKge.1);have HW:=J (fy (ar HBW.1 HB.1));replace HB:=J (fy HB.1);have HNz:=HN;refine fk (n:=11) (S:=fun w'=>w'.cell? ⟨gp,0,none⟩=some (.pointer (some ⟨gb,0,none⟩))∧w'.cell? ⟨ge,0,none⟩=some (.string e0)∧w'.cell? ⟨ge,1,none⟩=some (.int .i64 e1)∧w'.cell? ⟨gb,1,none⟩=some (.slice A0 U.length c0)) (ds:=[10]) (mb 0 11) (by kernel_rfl) rfl rfl ⟨(bL BKgp.1 0).trans rfl,(bL BKge.1 0).trans rfl,(bL BKge.1 1).trans rfl,(bL BKb.1 1).trans rfl⟩ (fun hHeld=>?_);refine jc bo.qX bo.qG (fun HT_ HW_=>?_);generalize wB.drew=wz at HB HW HN HNz BKgp BKge BKb hHeld ⊢
 refine cZ 0 4 HT_.1 HW_.1 (mb 1 10) hHeld ?_;refine cZ 1 5 HT_.1 HW_.1 (mb 2 9) hHeld ?_;refine aW 2 6 HT_.1 (mb 3 8) ?_;refine aW 3 7 HT_.1 (mb 4 7) ?_;refine cZ 4 8 HT_.1 HW_.1 (mb 5 6) hHeld ?_;refine cZ 5 9 HT_.1 HW_.1 (mb 6 5) hHeld ?_;refine et 6 (some 10) HT_.1 (mb 7 4) (fun K hK=>?_);refine Ih (w1:=?_) (v:=?_) (by rfl) rfl ?_ ?_
 rotate_left 2
 ·go_simp;constructor
  ·rfl
  ·rfl
 refine hK.out _ _ ⟨(bL (l7 BKgp.1 _) 0).trans rfl,(bL (l7 BKge.1 _) 0).trans rfl,(bL (l7 BKge.1 _) 1).trans rfl,(bL (l7 BKb.1 _) 1).trans rfl⟩ (fun hHeld=>?_);clear hK K;refine cR 10 ?_;refine et 7 (some 11) HT_.1 (mb 8 3) (fun K hK=>?_);refine Kd.US an (w0:=W) W.heap.size (by rfl) (.tmp 8) (.tmp 10) 25 89 (.agg #[(.string ⟨#[]⟩),(.int .i64 0)]) 24 rfl Tryz.underlying25 iV rfl (by decide) (by omega) (.slice A0 U.length c0) U (⟨e0,e1⟩:aa) [.string e0,.int .i64 e1] (fun k_=>some k_=((.slice A0 U.length c0):Value).ownBlock∨w.heap.size≤k_) (fun _=>False) (by rfl) (by rfl) (nn _ _ _ (⟨e0,e1⟩:aa)) (fun _ h=>h.elim) ?aF ?aO ?aB ?aS ?aL ?_
 (case aF=>exact fun k_ hk=>.inr (Nat.le_trans HB.1.size hk))
 (case aO=>exact HN.1)
 (case aB=>exact HW.1)
 (case aS=>exact HW.1.size)
 (case aL=>have:=LM.1;omega)
 intro v1 w1 ho hb hg hat;have HRn:=J ho;have pM:=J hb;have kP:=J hg;clear ho hb hg hat;replace BKgp:=J (cM BKgp.1 kP.1 (Kd.eL HN.1 BKgp.1 (by decide)));replace BKb:=J (cM BKb.1 kP.1 (Kd.eL HN.1 BKb.1 (by decide)));replace BKge:=J (cM BKge.1 (show wz.grownBy w1 _ from kP.1) (fun e_=>by have eU:=Kd.eK mF.1 ge e_.symm;have eV:=GEge.1;omega));refine hK.out _ _ ⟨(bL BKgp.1 0).trans rfl,(bL BKge.1 0).trans rfl,(bL BKge.1 1).trans rfl,(bL BKb.1 1).trans rfl⟩ (fun hHeld=>?_);clear hK K;refine cR 11 ?_;refine aW 8 12 HT_.1 (mb 9 2) ?_;refine aW 9 13 HT_.1 (mb 10 1) ?_;refine Hz (i:=10) (N:=none) (mb 11 0) rfl rfl (HU HT_.1 (by kernel_rfl)) (by decide) (fun K hK=>?_);have hfz:=eA BKb.1 1;have Cs:=hHeld.2.2.2;obtain⟨An,cn,en⟩:=Kd.b7 HRn.1;subst en;refine uR (w1:=?_) (by rfl) rfl ?_ ?_
 rotate_left
 ·go_simp;rfl
 refine hK.out _ _ ?_;clear hK K;refine fA (iS HT_.1 (by kernel_rfl)) ?_;have hlen:(U++[(⟨e0,e1⟩:aa)]).length=U.length+1:=by simp
 rw[←hlen];clear hlen;have Wm:Kept w w1 (fun k_=>k_=gb∨some k_=((.slice A0 U.length c0):Value).ownBlock):=Kept.qc kP.1 (Kept.nr HB.1 _) (fun k_ e_=>.inl (.inr e_.symm));have hgbw:w.heap.size≤gb∨gb<w.heap.size:=by omega
 have IK:=J (Kd.uc HRn.1 BKb.1 (by decide) 1 (Value.slice An (U++[(⟨e0,e1⟩:aa)]).length cn));have Mj:=J (bf BKb.1 1 (Value.slice An (U++[(⟨e0,e1⟩:aa)]).length cn) rfl);have hpb:gp≠gb:=Mv.kj (L:=[97]) ⟨_,List.mem_cons_self,(_,(0,0)),BKgp.1⟩ BKb.1 (by decide);have Mk:=J (Ef BKgp.1 (p:=⟨gb,1,none⟩) hpb (Value.slice An (U++[(⟨e0,e1⟩:aa)]).length cn));have Bn:=J (hZ (j:=1) (v:=(Value.slice An (U++[(⟨e0,e1⟩:aa)]).length cn)) pM.1 hge);have lV:Kept w (w1.setCell ⟨gb,1,none⟩ (Value.slice An (U++[(⟨e0,e1⟩:aa)]).length cn)) (fun k_=>k_=gb∨some k_=((.slice A0 U.length c0):Value).ownBlock):=Kept.setCell Wm (.inl (.inl rfl)) _;obtain⟨db,cap,he,_,_,_⟩:=Kd.Bw IK.1 (by simp);injection he with nf J8 wu
 subst nf;subst wu;have hcx:(w1.setCell ⟨gb,1,none⟩ (Value.slice (some ⟨db,0,none⟩) (U++[(⟨e0,e1⟩:aa)]).length cn)).cell? ⟨gp,0,none⟩=some (.pointer (some ⟨gb,0,none⟩)):=(bL Mk.1 0).trans rfl;have hcy:(w1.setCell ⟨gb,1,none⟩ (Value.slice (some ⟨db,0,none⟩) (U++[(⟨e0,e1⟩:aa)]).length cn)).cell? ⟨gb,1,none⟩=some (.slice (some ⟨db,0,none⟩) (U++[(⟨e0,e1⟩:aa)]).length cn):=(bL Mj.1 1).trans rfl;generalize hwq:w1.setCell ⟨gb,1,none⟩ (Value.slice (some ⟨db,0,none⟩) (U++[(⟨e0,e1⟩:aa)]).length cn)=wq at IK Mj Mk Bn lV hcx hcy ⊢
 clear hwq HRn BKb BKgp BKge pM kP HN HNz HB Wm;generalize hxs:(U++[(⟨e0,e1⟩:aa)])=xs at *
 have zn:1≤xs.length:=by rw[←hxs];simp
 have Gh:xs.length<4611686018427387904:=by rw[←hxs,List.length_append,List.length_singleton];have:=LM.1;omega
 have HXG:=J (show bo.sort (U++[(⟨e0,e1⟩:aa)])=bo.sort xs from by rw[hxs]);clear hxs;go_wp2_with (first|((with_reducible refine aJ (f:=122) rfl ?_);refine qL (some 20) rfl rfl Tryz.func122 (by kernel_rfl) rfl #[.iface 25 (.slice (some ⟨db,0,none⟩) xs.length cn),.func (.func 123) #[] #[.pointer (some ⟨gp,0,none⟩)]] rfl (by (try simp only[List.map_toArray,List.map_cons,List.map_nil]);first|done|rfl) ?_;(refine(bo.slice gp gb db cn W.heap.size u0 u2 u3 xs _ _ W Mk.1 Mj.1 IK.1 zn Gh (Nat.le_refl _) Bn.1).mono ?_);rintro e w5 ⟨rfl,QJ,WE,Wn,nh⟩;refine⟨_,rfl,?_⟩))
 first|go_end0|((try simp only[Exit.inBlock,Exit.then]);refine bodyPost_ret (results_none rfl _ _ _) rfl ?_)
 have Wz:Kept w w5 (fun k_=>k_=gb∨some k_=((.slice A0 U.length c0):Value).ownBlock):=lV.tC nh (fun k_ e_=>by
  rcases IK.1.1 k_ e_.symm with h1|h1
  ·exact .inl (.inr h1)
  ·exact .inr h1)
 rw[←HXG.1]at QJ
 first|exact⟨_,rfl,QJ,WE,Wn,Wz⟩|exact⟨rfl,_,QJ,WE,Wn,Wz⟩
namespace Mv
section
variable {W w w1 w2:World} {gb:Nat} {vI vN vS v0:Value} {U:List (al)} {l1 l2 r:List (aa)} {n:Int} {u0 u2 u3:Value}
theorem HV (h:Kept w w1 (lu w gb)) (k:Kept w1 w2 (lu w1 gb)):Kept w w2 (lu w gb):=h.tC k (fun k_ ho=>by
 by_cases hc:lu w gb k_
 ·exact .inl hc
 ·by_cases hl:w.heap.size≤k_
  ·exact .inr hl
  ·rcases ho with rfl|⟨q,hq,cells,hx⟩
   ·exact .inl (.inl rfl)
   ·exact .inl (.inr ⟨q,hq,cells,(h.2 k_ (by omega) hc).symm.trans hx⟩))
theorem ZV {vN:Value} (hI:Kd.S bc 63 w W.heap.size (fun _=>True) vI U) (hN:Kd.R an 89 w W.heap.size (fun k_=>some k_≠vS.ownBlock) vN l1) (hS:Kd.R an 89 w W.heap.size (fun k_=>some k_≠vN.ownBlock) vS l2)
 (hbk:w.heap[gb]? = some (.cells #[u0,vN,u2,u3] 27 (0,0))) (hr:Kd.R an 89 w1 W.heap.size (fun k_=>some k_=vN.ownBlock∨w.heap.size≤k_) v0 r) (hk:Kept w w1 (fun k_=>k_=gb∨some k_=vN.ownBlock)) :
 Kd.S bc 63 w1 W.heap.size (fun _=>True) vI U∧Kd.R an 89 w1 W.heap.size (fun k_=>some k_≠vS.ownBlock) v0 r∧Kd.R an 89 w1 W.heap.size (fun k_=>some k_≠v0.ownBlock) vS l2∧Kept w w1 (lu w gb):=by
 refine⟨Kd.dj (Kd.NL (Kd.kS hI) hk (fun k_ hk_ hs=>?_)) (fun _ _=>trivial),Kd.oZ rfl hr (fun k_ hk_ e=>?_),Kd.oZ rfl (Kd.vK (Kd.kf rfl hS) hk (fun k_ hk_ hs=>?_)) (fun k_ hk_ e=>?_),hk.mono (fun k_ hs=>?_)⟩
 ·rcases hs with rfl|hs
  ·exact kj hk_.2.2.2 hbk (by decide) rfl
  ·obtain⟨cells,hc⟩:=Kd.fb hN k_ hs.symm;exact kj hk_.2.2.2 hc (by decide) rfl
 ·rcases hr.1 k_ hk_ with h1|h1
  ·exact hN.1 k_ h1.symm e
  ·have:=Kd.eK hS k_ e.symm;omega
 ·rcases hs with rfl|hs
  ·obtain⟨cells,hc⟩:=Kd.fb hS k_ hk_.symm;rw[hbk]at hc;injection hc with hc
   injection hc with _ hc
   exact absurd hc (by decide)
  ·exact hS.1 k_ hk_.symm hs
 ·rcases hr.1 k_ e.symm with h1|h1
  ·exact hS.1 k_ hk_ h1
  ·have:=Kd.eK hS k_ hk_;omega
 ·rcases hs with rfl|hs
  ·exact .inl rfl
  ·obtain⟨cells,hc⟩:=Kd.fb hN k_ hs.symm;exact .inr ⟨89,by decide,cells,hc⟩
end
end Mv
end Go.Proofs.YtingkpnoiekliaaGreat.MZ
