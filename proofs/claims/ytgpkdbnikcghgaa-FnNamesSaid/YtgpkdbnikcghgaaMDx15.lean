-- Written by mp.py, our own printer (wip/mp.py), and made shorter by wip/mp_shrink*.py.
import Derived.Test.YtgpkdbnikcghgaaVAll
import Derived.Test.YtgpkdbnikcghgaaMDx13
import Derived.Shelf.SlSortFuncK.WholeK
import Derived.Shelf.GgSortFunc.Tiny
import Derived.Test.YtgpkdbnikcghgaaMDx0
import Derived.Test.YtgpkdbnikcghgaaMDx13
namespace Go.Proofs.Ytgpkdbnikcghgaa.MD
open Go.RowKit Go.Proofs.YtgpkdbnikcghgaaW.PrintWords Go.Proofs.YtgpkdbnikcghgaaW.PrintLast Go.Proofs.YtgpkdbnikcghgaaW.PrintMore Go.Proofs.Ytgpkdbnikcghgaa.MWords
attribute [local go_sem] max2_int min2_int max_two min_two max_three min_three max_four min_four
set_option linter.unusedVariables false
set_option linter.unusedSimpArgs false
def bn.ren:Go.Shelf.Ren:=⟨fun|6=>94|10=>118|11=>119|12=>120|13=>121|14=>122|24=>133|25=>134|26=>135|27=>136|28=>137|29=>138|30=>139|31=>140|32=>141|33=>142|34=>143|35=>144|36=>145|37=>146|38=>147|39=>148|n=>n,fun|20=>20|26=>99|35=>118|0=>0|37=>120|3=>3|41=>124|44=>127|49=>128|51=>135|4=>4|54=>138|53=>137|58=>142|5=>5|9=>9|60=>144|64=>148|66=>150|67=>151|17=>17|32=>115|33=>116|82=>166|12=>12|75=>159|76=>160|77=>161|78=>162|79=>163|80=>164|n=>n,fun|n=>n⟩
theorem bn.laid:Go.Proofs.LaysGg.n6 Try.prog bn.ren:={
 mixed:=by kernel_rfl
 f6:=Try.func94.trans (congrArg some (by kernel_rfl))
 f10:=Try.func118.trans (congrArg some (by kernel_rfl))
 f11:=Try.func119.trans (congrArg some (by kernel_rfl))
 f12:=Try.func120.trans (congrArg some (by kernel_rfl))
 f13:=Try.func121.trans (congrArg some (by kernel_rfl))
 f14:=Try.func122.trans (congrArg some (by kernel_rfl))
 f24:=Try.func133.trans (congrArg some (by kernel_rfl))
 f25:=Try.func134.trans (congrArg some (by kernel_rfl))
 f26:=Try.func135.trans (congrArg some (by kernel_rfl))
 f27:=Try.func136.trans (congrArg some (by kernel_rfl))
 f28:=Try.func137.trans (congrArg some (by kernel_rfl))
 f29:=Try.func138.trans (congrArg some (by kernel_rfl))
 f30:=Try.func139.trans (congrArg some (by kernel_rfl))
 f31:=Try.func140.trans (congrArg some (by kernel_rfl))
 f32:=Try.func141.trans (congrArg some (by kernel_rfl))
 f33:=Try.func142.trans (congrArg some (by kernel_rfl))
 f34:=Try.func143.trans (congrArg some (by kernel_rfl))
 f35:=Try.func144.trans (congrArg some (by kernel_rfl))
 f36:=Try.func145.trans (congrArg some (by kernel_rfl))
 f37:=Try.func146.trans (congrArg some (by kernel_rfl))
 f38:=Try.func147.trans (congrArg some (by kernel_rfl))
 f39:=Try.func148.trans (congrArg some (by kernel_rfl))
 t0:=Try.underlying0
 a0:=Try.isAgg0
 z0:=Try.sizeOf0
 v0:=Try.zeroValue0
 i0:=by kernel_rfl
 t3:=Try.underlying3
 a3:=Try.isAgg3
 z3:=Try.sizeOf3
 v3:=Try.zeroValue3
 i3:=by kernel_rfl
 t4:=Try.underlying4
 a4:=Try.isAgg4
 z4:=Try.sizeOf4
 v4:=Try.zeroValue4
 i4:=by kernel_rfl
 t5:=Try.underlying5
 a5:=Try.isAgg5
 z5:=Try.sizeOf5
 v5:=Try.zeroValue5
 i5:=by kernel_rfl
 t9:=Try.underlying9
 a9:=Try.isAgg9
 z9:=Try.sizeOf9
 v9:=Try.zeroValue9
 i9:=by kernel_rfl
 t12:=Try.underlying12
 a12:=Try.isAgg12
 z12:=Try.sizeOf12
 v12:=Try.zeroValue12
 i12:=by kernel_rfl
 t17:=Try.underlying17
 a17:=Try.isAgg17
 z17:=Try.sizeOf17
 v17:=Try.zeroValue17
 i17:=by kernel_rfl
 t20:=Try.underlying20
 a20:=Try.isAgg20
 z20:=Try.sizeOf20
 v20:=Try.zeroValue20
 i20:=by kernel_rfl
 t26:=Try.underlying99
 a26:=Try.isAgg99
 z26:=Try.sizeOf99
 v26:=Try.zeroValue99
 i26:=by kernel_rfl
 t32:=Try.underlying115
 a32:=Try.isAgg115
 z32:=Try.sizeOf115
 v32:=Try.zeroValue115
 i32:=by kernel_rfl
 t33:=Try.underlying116
 a33:=Try.isAgg116
 z33:=Try.sizeOf116
 v33:=Try.zeroValue116
 i33:=by kernel_rfl
 t35:=Try.underlying118
 a35:=Try.isAgg118
 z35:=Try.sizeOf118
 v35:=Try.zeroValue118
 i35:=by kernel_rfl
 t37:=Try.underlying120
 a37:=Try.isAgg120
 z37:=Try.sizeOf120
 v37:=Try.zeroValue120
 i37:=by kernel_rfl
 t41:=Try.underlying124
 a41:=Try.isAgg124
 z41:=Try.sizeOf124
 v41:=Try.zeroValue124
 i41:=by kernel_rfl
 t44:=Try.underlying127
 a44:=Try.isAgg127
 z44:=Try.sizeOf127
 v44:=Try.zeroValue127
 i44:=by kernel_rfl
 t49:=Try.underlying128
 a49:=Try.isAgg128
 z49:=Try.sizeOf128
 v49:=Try.zeroValue128
 i49:=by kernel_rfl
 t51:=Try.underlying135
 a51:=Try.isAgg135
 z51:=Try.sizeOf135
 v51:=Try.zeroValue135
 i51:=by kernel_rfl
 t53:=Try.underlying137
 a53:=Try.isAgg137
 z53:=Try.sizeOf137
 v53:=Try.zeroValue137
 i53:=by kernel_rfl
 t54:=Try.underlying138
 a54:=Try.isAgg138
 z54:=Try.sizeOf138
 v54:=Try.zeroValue138
 i54:=by kernel_rfl
 t58:=Try.underlying142
 a58:=Try.isAgg142
 z58:=Try.sizeOf142
 v58:=Try.zeroValue142
 i58:=by kernel_rfl
 t60:=Try.underlying144
 a60:=Try.isAgg144
 z60:=Try.sizeOf144
 v60:=Try.zeroValue144
 i60:=by kernel_rfl
 t64:=Try.underlying148
 a64:=Try.isAgg148
 z64:=Try.sizeOf148
 v64:=Try.zeroValue148
 i64:=by kernel_rfl
 t66:=Try.underlying150
 a66:=Try.isAgg150
 z66:=Try.sizeOf150
 v66:=Try.zeroValue150
 i66:=by kernel_rfl
 t67:=Try.underlying151
 a67:=Try.isAgg151
 z67:=Try.sizeOf151
 v67:=Try.zeroValue151
 i67:=by kernel_rfl
 t75:=Try.underlying159
 a75:=Try.isAgg159
 z75:=Try.sizeOf159
 v75:=Try.zeroValue159
 i75:=by kernel_rfl
 t76:=Try.underlying160
 a76:=Try.isAgg160
 z76:=Try.sizeOf160
 v76:=Try.zeroValue160
 i76:=by kernel_rfl
 t77:=Try.underlying161
 a77:=Try.isAgg161
 z77:=Try.sizeOf161
 v77:=Try.zeroValue161
 i77:=by kernel_rfl
 t78:=Try.underlying162
 a78:=Try.isAgg162
 z78:=Try.sizeOf162
 v78:=Try.zeroValue162
 i78:=by kernel_rfl
 t79:=Try.underlying163
 a79:=Try.isAgg163
 z79:=Try.sizeOf163
 v79:=Try.zeroValue163
 i79:=by kernel_rfl
 t80:=Try.underlying164
 a80:=Try.isAgg164
 z80:=Try.sizeOf164
 v80:=Try.zeroValue164
 i80:=by kernel_rfl
 t82:=Try.underlying166
 a82:=Try.isAgg166
 z82:=Try.sizeOf166
 v82:=Try.zeroValue166
 i82:=by kernel_rfl }
noncomputable def bn.tT:TypeInfo:=(Try.prog.info? 28).get (by kernel_rfl)
noncomputable def bn.tE:TypeInfo:=(Try.prog.info? 63).get (by kernel_rfl)
theorem bn.aon (n:Nat) (h2:2≤n):Go.Lib.swapperK n bn.tE 25=9:=by
 have a:bn.tE.hasPointers=true:=by kernel_rfl
 have b:(bn.tE.bytes == 8)=false:=by kernel_rfl
 have c:(n == 0)=false:=by simp;omega
 have d:(n == 1)=false:=by simp;omega
 simp[Go.Lib.swapperK,a,b,c,d]
theorem bn.aom:Go.Lib.swapperK 1 bn.tE 25=2:=rfl
def bn.enc (x:ah):List Value:=[.string x.f0,.int .i64 x.f1]
def bn.lt (a b:ah):Bool:=Op.bytesLess a.f0.toList b.f0.toList
theorem bn.swo:Go.Sort.SWO bn.lt where
 irrefl:=fun x=>by simp only[bn.lt,bytesLess_eq];exact Go.Sort.swo_ltStr.irrefl _
 trans:=fun x y z=>by simp only[bn.lt,bytesLess_eq];exact Go.Sort.swo_ltStr.trans _ _ _
 ntrans:=fun x y z=>by simp only[bn.lt,bytesLess_eq];exact Go.Sort.swo_ltStr.ntrans _ _ _
instance bn.inh:Inhabited ah:=⟨⟨ByteArray.empty,0⟩⟩
def bn.sort (xs:List ah):List ah:=if 2≤xs.length then (Go.Sort.pdq bn.lt xs.toArray 0 xs.toArray.size (Go.Lib.bitLen xs.toArray.size) true true).toList else xs
def bn.f (l:List ah) (e0:ByteArray) (e1:Int):Option (List ah):=if l.length<5864062014805 then some (bn.sort (l++[(⟨e0,e1⟩:ah)])) else none
set_option maxHeartbeats 2000000 in
theorem bn.less (gp gb dI off c size:Nat) (W:World) (F:Nat→ByteArray) (hp:W.cell? ⟨gp,0,none⟩=some (.pointer (some ⟨gb,0,none⟩))) (hs:W.cell? ⟨gb,1,none⟩=some (.slice (some ⟨dI,off,none⟩) size c))
 (hc:∀t,t<size→W.cell? ⟨dI,off+t*2,none⟩=some (.string (F t))) (i j:Nat) (hi:i<size) (hj:j<size) (_hsz:size<4611686018427387904) :
 Calls Try.prog 95 #[.int .i64 i,.int .i64 j,.pointer (some ⟨gp,0,none⟩)] W fun e w'=>e = .returned (.bool (Op.bytesLess (F i).toList (F j).toList))∧∃q,w'=W.drewN q:=by
 have ci:=hc i hi;have cj:=hc j hj;go_enter Try.func95,Try.ntmps95;go_wp2;go_quiet (fail);go_wp2;go_ret;exact⟨rfl,nq,rfl⟩
theorem bn.Yw (d:Array ah):(Go.Sort.flatK bn.enc 2 d).size=d.size*2:=by simp[Go.Sort.flatK]
theorem bn.holds {w:World} {base dI c:Nat} {ok:Nat→Prop} {xs:List ah} (h:Kd.R ay 63 w base ok (.slice (some ⟨dI,0,none⟩) xs.length c) xs):Go.Sort.HoldsK bn.enc 2 w dI 0 xs.toArray:=by
 intro j hj;rw[bn.Yw,List.size_toArray]at hj;obtain⟨cs,hcl,hM,hcc,hfr⟩:=Kd.JM h zX ((j / 2:Nat):Int) (by omega) (by omega)
 have hcs:cs=bn.enc (xs.getD (j / 2) zX):=by
  rw[Int.toNat_natCast]at hM;have:=aof hM;simpa[bn.enc] using this
 have hg:=Go.Sort.get_flatK bn.enc 2 xs.toArray j (by rw[List.size_toArray];exact hj)
 have hx:xs.toArray[j / 2]! = xs.getD (j / 2) zX:=by
  have h2:j / 2<xs.length:=by omega
  rw[getElem!_pos xs.toArray (j / 2) (by simpa using h2),List.getD_eq_getElem?_getD,List.getElem?_eq_getElem h2];rfl
 rw[hg,hx];have hd:j=j / 2*2+j % 2:=by omega
 have ZT:(⟨dI,j,none⟩:Addr)=⟨dI,j / 2*2+j % 2,none⟩:=congrArg (fun x=>(⟨dI,x,none⟩:Addr)) hd;refine⟨?_,?_⟩
 ·have hlt:j % 2<(bn.enc (xs.getD (j / 2) zX)).length:=by show j % 2<2;omega
  have:=hcc (j % 2) ((bn.enc (xs.getD (j / 2) zX))[j % 2]!) (by rw[hcs,List.getElem?_eq_getElem hlt];exact congrArg some (getElem!_pos (bn.enc (xs.getD (j / 2) zX)) (j % 2) hlt).symm);rw[Int.toNat_natCast]at this;rw[Nat.zero_add];show w.cell? ⟨dI,j,none⟩=some _;rw[ZT];exact this
 ·have:=hfr (j % 2);rw[Int.toNat_natCast]at this;rw[Nat.zero_add,ZT];exact this
theorem bn.two {L:List Value} {i:Nat} {a b:Value} (ha:L[i]? = some a) (hb:L[i+1]? = some b):(L.drop i).take 2=[a,b]:=by
 obtain⟨h1,e1⟩:=List.getElem?_eq_some_iff.1 ha;obtain⟨h2,e2⟩:=List.getElem?_eq_some_iff.1 hb;rw[List.drop_eq_getElem_cons h1,List.drop_eq_getElem_cons h2,e1,e2];rfl
theorem bn.sorted {w:World} {base dI c n:Nat} {ok:Nat→Prop} {xs:List ah} (os:Array Obj) (d:Array ah) (hd:d.size=xs.length) (h:Kd.R ay 63 w base ok (.slice (some ⟨dI,0,none⟩) xs.length c) xs) :
 Kd.R ay 63 (Go.Sort.grow (Go.Sort.putRowK bn.enc 2 (Go.Sort.ahead w n) dI 0 d) os) base ok (.slice (some ⟨dI,0,none⟩) xs.length c) d.toList∧Kept w (Go.Sort.grow (Go.Sort.putRowK bn.enc 2 (Go.Sort.ahead w n) dI 0 d) os) (fun k_=>some k_=(Value.slice (some ⟨dI,0,none⟩) xs.length c).ownBlock)∧∀W:World,W.heap.size≤base→Below W.heap.size W w→Below W.heap.size W (Go.Sort.grow (Go.Sort.putRowK bn.enc 2 (Go.Sort.ahead w n) dI 0 d) os):=by
 obtain⟨h0,inner,ho,hr⟩:=h;obtain⟨hil,ho⟩:=ho
 rcases ho with ⟨he,_⟩|⟨g,cap,cur,he,hb,hh,hnc,hcm,hcs,ht⟩
 ·exact absurd he (by simp)
 injection he with ur ZU Gs
 injection ur with ur
 injection ur with ur _ _
 subst ur;subst Gs;have hcs:cur.size=c*2:=hcs;have hlt:dI<w.heap.size:=(Array.getElem?_eq_some_iff.1 hh).1;have hsz:(Go.Sort.putRowK bn.enc 2 (Go.Sort.ahead w n) dI 0 d).heap.size=w.heap.size:=by simp[Go.Sort.putRowK,Go.Sort.putRow,Go.Sort.mapBlock,Go.Sort.ahead]
 have hat:∀k,k<w.heap.size→k≠dI→(Go.Sort.grow (Go.Sort.putRowK bn.enc 2 (Go.Sort.ahead w n) dI 0 d) os).heap[k]? = w.heap[k]?:=by
  intro k hk hne;show ((Go.Sort.putRowK bn.enc 2 (Go.Sort.ahead w n) dI 0 d).heap++os)[k]? = _;rw[Array.getElem?_append_left (by rw[hsz];exact hk)];simp[Go.Sort.putRowK,Go.Sort.putRow,Go.Sort.mapBlock,Go.Sort.ahead,Array.getElem?_modify,Ne.symm hne]
 have hbl:(Go.Sort.grow (Go.Sort.putRowK bn.enc 2 (Go.Sort.ahead w n) dI 0 d) os).heap[dI]? = some (.cells (Go.Sort.putCells id 0 (Go.Sort.flatK bn.enc 2 d) cur) 63 (0,0)):=by
  show ((Go.Sort.putRowK bn.enc 2 (Go.Sort.ahead w n) dI 0 d).heap++os)[dI]? = _;rw[Array.getElem?_append_left (by rw[hsz];exact hlt)];simp[Go.Sort.putRowK,Go.Sort.putRow,Go.Sort.mapBlock,Go.Sort.ahead,Array.getElem?_modify,hh,Go.Sort.onCells]
 have hle:w.heap.size≤(Go.Sort.grow (Go.Sort.putRowK bn.enc 2 (Go.Sort.ahead w n) dI 0 d) os).heap.size:=by
  show _≤((Go.Sort.putRowK bn.enc 2 (Go.Sort.ahead w n) dI 0 d).heap++os).size;rw[Array.size_append,hsz];omega
 have hcell:∀t,t<d.size*2→(Go.Sort.putCells id 0 (Go.Sort.flatK bn.enc 2 d) cur).toList[t]? = some ((bn.enc d[t / 2]!)[t % 2]!):=by
  intro t ht2;have sj:t<cur.size:=by rw[hcs];have:xs.length*2≤c*2:=Nat.mul_le_mul_right _ hnc;omega
  rw[Array.getElem?_toList];simp only[Go.Sort.putCells,Array.getElem?_mapIdx,Array.getElem?_eq_getElem sj,Option.map_some];rw[if_pos ⟨by omega,by rw[bn.Yw];omega⟩,Nat.sub_zero,Go.Sort.get_flatK bn.enc 2 d t ht2];rfl
 have hps:(Go.Sort.putCells id 0 (Go.Sort.flatK bn.enc 2 d) cur).toList.length=c*2:=by
  rw[Array.length_toList];simp only[Go.Sort.putCells,Array.size_mapIdx];exact hcs
 have hdl:d.toList.length=xs.length:=by rw[Array.length_toList,hd]
 have zg:xs.length*2≤c*2:=Nat.mul_le_mul_right _ hnc;refine⟨⟨h0,((Go.Sort.putCells id 0 (Go.Sort.flatK bn.enc 2 d) cur).toList.take (xs.length*2)),⟨?_,.inr ⟨dI,c,_,by rw[hdl],hb,hbl,by rw[hdl];exact hnc,hcm,by show _=c*2;simp only[Go.Sort.putCells,Array.size_mapIdx];exact hcs,by rw[hdl];rfl⟩⟩,?_,?_⟩,⟨hle,fun i hi hn=>hat i hi (fun e=>hn (by rw[e];rfl))⟩,fun W hWb hB=>?_⟩
 ·show _=d.toList.length*2;rw[List.length_take,hps,hdl];omega
 ·show ((Go.Sort.putCells id 0 (Go.Sort.flatK bn.enc 2 d) cur).toList.take (xs.length*2)).length=d.toList.length*2;rw[List.length_take,hps,hdl];omega
 ·intro j p hj;obtain⟨hjl,hjp⟩:=List.getElem?_eq_some_iff.1 hj;have hjl:j<d.size:=by rw[←Array.length_toList];exact hjl
  have hdj:d[j]! = p:=by rw[getElem!_pos d j hjl,←hjp,Array.getElem_toList]
  have h1:=hcell (j*2) (by omega);have h2:=hcell (j*2+1) (by omega);rw[show j*2 / 2=j by omega,show j*2 % 2=0 by omega,hdj]at h1;rw[show (j*2+1) / 2=j by omega,show (j*2+1) % 2=1 by omega,hdj]at h2;have e:(((Go.Sort.putCells id 0 (Go.Sort.flatK bn.enc 2 d) cur).toList.take (xs.length*2)).drop (j*2)).take 2=[.string p.f0,.int .i64 p.f1]:=bn.two (by rw[List.getElem?_take,if_pos (by omega),h1];rfl) (by rw[List.getElem?_take,if_pos (by omega),h2];rfl);show ay.M _ _ _ p ((((Go.Sort.putCells id 0 (Go.Sort.flatK bn.enc 2 d) cur).toList.take (xs.length*2)).drop (j*2)).take 2);rw[e];exact rn _ _ _ p
 ·obtain⟨b1,b2,b3,b4,b5⟩:=hB;exact⟨b1,b2,b3,Nat.le_trans b4 hle,fun k hk=>(hat k (Nat.lt_of_lt_of_le hk b4) (by omega)).trans (b5 k hk)⟩
theorem bn.slice (gp gb dI c base:Nat) (u0 u2 u3:Value) (xs:List ah) (ok:Nat→Prop) (w W:World) (hp:w.heap[gp]? = some (.cells #[.pointer (some ⟨gb,0,none⟩)] 71 (0,0))) (hb:w.heap[gb]? = some (.cells #[u0,.slice (some ⟨dI,0,none⟩) xs.length c,u2,u3] 30 (0,0)))
 (h:Kd.R ay 63 w base ok (.slice (some ⟨dI,0,none⟩) xs.length c) xs) (h1:1≤xs.length) (hsz:xs.length<4611686018427387904) (hWb:W.heap.size≤base) (hB:Below W.heap.size W w) :
 Calls Try.prog 94 #[.iface 28 (.slice (some ⟨dI,0,none⟩) xs.length c),.func (.func 95) #[] #[.pointer (some ⟨gp,0,none⟩)]] w fun e w'=>e = .returned (.tuple #[])∧Kd.R ay 63 w' base ok (.slice (some ⟨dI,0,none⟩) xs.length c) (bn.sort xs)∧w'.heap[gb]? = some (.cells #[u0,.slice (some ⟨dI,0,none⟩) xs.length c,u2,u3] 30 (0,0))∧Below W.heap.size W w'∧Kept w w' (fun k_=>some k_=(Value.slice (some ⟨dI,0,none⟩) xs.length c).ownBlock):=by
 have anx:gp≠dI:=fun e=>Kd.bK h hp (by decide) (by rw[e];rfl)
 have LR:gb≠dI:=fun e=>Kd.bK h hb (by decide) (by rw[e];rfl)
 have hblk:dI<w.heap.size:=Kd.cP h dI rfl;have hkey:∀w',Kept w w' (fun k_=>some k_=(Value.slice (some ⟨dI,0,none⟩) xs.length c).ownBlock)→w'.heap[gb]? = some (.cells #[u0,.slice (some ⟨dI,0,none⟩) xs.length c,u2,u3] 30 (0,0)):=fun w' hk=>jx hb hk (fun e=>LR (by injection e))
 by_cases h2:2≤xs.length
 ·have hH:=bn.holds h
  have hless:LessReadsK Try.prog 95 #[.pointer (some ⟨gp,0,none⟩)] bn.enc 2 bn.lt dI 0 xs.toArray.size w:=by
   intro m os dk hs i j hi hj
   have e:sortWorldK bn.enc 2 w dI 0 m dk os=Go.Sort.putRowK bn.enc 2 (Go.Sort.grow (Go.Sort.ahead w m) os) dI 0 dk:=by
    unfold sortWorldK;rw[Go.Sort.putRowK_grow _ _ (Go.Sort.ahead w m) _ dI 0 _ hblk]
   have hHg:Go.Sort.HoldsK bn.enc 2 (Go.Sort.grow (Go.Sort.ahead w m) os) dI 0 xs.toArray:=Go.Sort.holdsK_grow _ _ _ _ dI 0 _ hblk (Go.Sort.holdsK_ahead _ _ _ _ _ _ _ hH);refine bn.less gp gb dI 0 c xs.toArray.size _ (fun t=>dk[t]!.f0) ?_ ?_ (fun t ht=>?_) i j hi hj (by rw[List.size_toArray];omega)
   ·rw[e,Go.Sort.cell?_putRowK_other _ _ _ dI 0 dk _ (by exact anx),Go.Sort.cell?_grow _ _ _ (by exact kT hp)];exact(dS hp 0).trans rfl
   ·rw[e,Go.Sort.cell?_putRowK_other _ _ _ dI 0 dk _ (by exact LR),Go.Sort.cell?_grow _ _ _ (by exact kT hb)];rw[List.size_toArray];exact(dS hb 1).trans rfl
   ·rw[e];exact((Go.Sort.holdsK_putRowK _ _ _ dI 0 _ dk hHg hs).cell (i:=t) (c:=0) (by omega) (by omega)).1
  have hS:=Any.sort_Slice_cells_eq bn.laid 28 63 bn.tT bn.tE (by kernel_rfl) (by kernel_rfl) (by kernel_rfl) (by kernel_rfl) 25 (fun _=>by kernel_rfl) bn.enc 2 (fun _=>rfl) (by kernel_rfl) (fun _=>by kernel_rfl)
   (fun x v hv=>by simp[bn.enc]at hv;rcases hv with rfl|rfl<;>rfl) bn.lt bn.swo 95 _
   (enters_of Try.func95 (by kernel_rfl) rfl) dI 0 c xs.toArray (by rw[List.size_toArray];exact h2) (by rw[List.size_toArray];exact hsz) 132 (by rw[bn.aon _ (by rw[List.size_toArray];exact h2)];kernel_rfl) false
   (fun args W=>run_callFunc_extern Try.func132 (by kernel_rfl) (by kernel_rfl) (by kernel_rfl) (e:=Extern.ReflectliteSwapper.swap false) (by kernel_rfl) args W) w hless hH hblk
  rw[List.size_toArray]at hS;change Calls Try.prog 94 _ _ _ at hS;refine hS.mono ?_;rintro e w' ⟨rfl,n,os,rfl⟩;have hsort:bn.sort xs=(Go.Sort.pdq bn.lt xs.toArray 0 xs.toArray.size (Go.Lib.bitLen xs.toArray.size) true true).toList:=by unfold bn.sort;rw[if_pos h2]
  have Dw:=Go.Sort.pdq_sorts bn.lt bn.swo xs.toArray 0 xs.toArray.size (Go.Lib.bitLen xs.toArray.size) true true (Nat.zero_le _) (Nat.le_refl _) (Or.inl rfl);have hd:(Go.Sort.pdq bn.lt xs.toArray 0 xs.toArray.size (Go.Lib.bitLen xs.toArray.size) true true).size=xs.length:=by rw[Dw.1.1,List.size_toArray]
  rw[List.size_toArray]at hd hsort;obtain⟨g1,g2,g3⟩:=bn.sorted (n:=n) os _ hd h;exact⟨rfl,by rw[hsort];exact g1,hkey _ g2,g3 W hWb hB,g2⟩
 ·have hone:xs.length=1:=by omega
  have hS:=Any.sort_Slice_tiny bn.laid 28 63 bn.tT bn.tE (by kernel_rfl) (by kernel_rfl) (by kernel_rfl) (by kernel_rfl) 25 (fun _=>by kernel_rfl) (some ⟨dI,0,none⟩) xs.length c (by omega) 125 (by rw[hone,bn.aom];kernel_rfl) (.func 95) #[] #[.pointer (some ⟨gp,0,none⟩)] w;change Calls Try.prog 94 _ _ _ at hS;refine hS.mono ?_;rintro e w' ⟨rfl,os,rfl⟩;have gh:Below w.heap.size w (Go.Sort.grow w os):=⟨rfl,rfl,rfl,by show _≤(w.heap++os).size;rw[Array.size_append];omega,fun k hk=>by show (w.heap++os)[k]? = _;exact Array.getElem?_append_left hk⟩;exact⟨rfl,by rw[show bn.sort xs=xs from by unfold bn.sort;rw[if_neg h2]];exact Kd.aX h gh,bH hb gh,aK hB gh,Kept.te gh _⟩
def bn.T1:Bool × List (List Nat × List Nat):=(true,[([],[]),([],[]),([1],[1]),([2],[2]),([3],[3]),([],[]),([5],[5]),([4,6],[4,6]),([0,0,1,2,3,4,5,6,7],[0]),([8,0,1,2,3,4,5,6,7],[8]),([9,7,7,0,1,2,3,4,5,6,7],[7,9])])
def bn.B1:List Nat:=[0,0,2,6,14,0,32,126,255,511,1023]
theorem bn.IV:fv .any (opsOf Try.f59 1)=bn.T1:=by kernel_rfl
theorem bn.Fq:lE bn.T1.2 bn.B1=true:=by kernel_rfl
set_option maxHeartbeats 8000000 in
set_option maxRecDepth 100000 in
theorem bn.calls (gb:Nat) (u0 u2 u3:Value) (A0:Option Addr) (c0:Nat) (l0:List ah) (e0:ByteArray) (e1:Int) (r:List ah) (okv:Nat→Prop) (w W:World) (hB:Below W.heap.size W w) (hge:W.heap.size≤gb) (hbk:w.heap[gb]? = some (.cells #[u0,(.slice A0 l0.length c0),u2,u3] 30 (0,0))) (hN:Kd.R ay 63 w W.heap.size okv (.slice A0 l0.length c0) l0) (h:bn.f l0 e0 e1=some r) :
 Calls Try.prog 59 #[.pointer (some ⟨gb,0,none⟩),.agg #[.string e0,.int .i64 e1]] w fun e w'=>∃v0:Value,e = .returned (.tuple #[])∧Kd.R ay 63 w' W.heap.size (fun k_=>some k_=((.slice A0 l0.length c0):Value).ownBlock∨w.heap.size≤k_) v0 r∧w'.heap[gb]? = some (.cells #[u0,v0,u2,u3] 30 (0,0))∧Below W.heap.size W w'∧Kept w w' (fun k_=>k_=gb∨some k_=((.slice A0 l0.length c0):Value).ownBlock):=by
 unfold bn.f at h;split at h
 case isFalse=>exact absurd h (by simp)
 rename_i hlm;obtain rfl:=Option.some.inj h;clear h;have LM:=J hlm;have HBW:=J hB;have Aj:=J hN;have HB:=J (Below.refl w.heap.size w);have sF:=J hbk;clear hlm hB hN hbk;go_enter Try.func59,Try.ntmps59;go_wp2_with (first|((with_reducible refine bh (N:=2) rfl ?_);refine bw 2 #[.pointer (some ⟨gb,0,none⟩)] 71 ?_;intro gp hg wA hbox hb;have BKgp:=J hbox;have GEgp:=J ((by rw[hg];exact aV (mH HB.1)):w.heap.size≤gp);replace HB:=J (aK (mH HB.1) hb);clear hb hbox hg)|((with_reducible refine bh (N:=3) rfl ?_);refine bw 3 #[.string e0,.int .i64 e1] 63 ?_;intro ge hg wB hbox hb;have BKge:=J hbox;have GEge:=J ((by rw[hg];exact aV (mH HB.1)):w.heap.size≤ge);replace BKgp:=J (bH (mK BKgp.1) hb);replace HB:=J (aK (mH HB.1) hb);clear hb hbox hg));have HN:=J (Kd.mf (Kd.aX (Kd.CV (ok:=(fun k_=>some k_=((.slice A0 l0.length c0):Value).ownBlock∨w.heap.size≤k_)) rfl Aj.1 (fun k_ e_=>.inl e_.symm)) HB.1));have BKb:=J (bY (bH sF.1 HB.1));replace BKgp:=J (bY BKgp.1);replace BKge:=J (bY BKge.1);have HW:=J (cS (aK HBW.1 HB.1));replace HB:=J (cS HB.1);have HNz:=HN;refine eu (n:=11) (S:=fun w'=>w'.cell? ⟨gp,0,none⟩=some (.pointer (some ⟨gb,0,none⟩))∧w'.cell? ⟨ge,0,none⟩=some (.string e0)∧w'.cell? ⟨ge,1,none⟩=some (.int .i64 e1)∧w'.cell? ⟨gb,1,none⟩=some (.slice A0 l0.length c0)) (ds:=[10]) (mb 0 11) (by kernel_rfl) rfl rfl ⟨(dS BKgp.1 0).trans rfl,(dS BKge.1 0).trans rfl,(dS BKge.1 1).trans rfl,(dS BKb.1 1).trans rfl⟩ (fun hHeld=>?_);refine gl bn.IV bn.Fq (fun HT_ HW_=>?_);generalize wB.drew=wz at HB HW HN HNz BKgp BKge BKb hHeld ⊢
 refine aT 0 4 HT_.1 HW_.1 (mb 1 10) hHeld ?_;refine aT 1 5 HT_.1 HW_.1 (mb 2 9) hHeld ?_;refine ai 2 6 HT_.1 (mb 3 8) ?_;refine ai 3 7 HT_.1 (mb 4 7) ?_;refine aT 4 8 HT_.1 HW_.1 (mb 5 6) hHeld ?_;refine aT 5 9 HT_.1 HW_.1 (mb 6 5) hHeld ?_;refine ca 6 (some 10) HT_.1 (mb 7 4) (fun K hK=>?_);refine I1 (w1:=?_) (v:=?_) (by rfl) rfl ?_ ?_
 rotate_left 2
 ·go_simp;constructor
  ·rfl
  ·rfl
 refine hK.out _ _ ⟨(dS (lQ BKgp.1 _) 0).trans rfl,(dS (lQ BKge.1 _) 0).trans rfl,(dS (lQ BKge.1 _) 1).trans rfl,(dS (lQ BKb.1 _) 1).trans rfl⟩ (fun hHeld=>?_);clear hK K;refine bD 10 ?_;refine ca 7 (some 11) HT_.1 (mb 8 3) (fun K hK=>?_);refine Kd.O9 ay (w0:=W) W.heap.size (by rfl) (.tmp 8) (.tmp 10) 28 63 (.agg #[(.string ⟨#[]⟩),(.int .i64 0)]) 24 rfl Try.underlying28 iZ rfl (by decide) (by omega) (.slice A0 l0.length c0) l0 (⟨e0,e1⟩:ah) [.string e0,.int .i64 e1] (fun k_=>some k_=((.slice A0 l0.length c0):Value).ownBlock∨w.heap.size≤k_) (fun _=>False) (by rfl) (by rfl) (rn _ _ _ (⟨e0,e1⟩:ah)) (fun _ h=>h.elim) ?aF ?aO ?aB ?aS ?aL ?_
 (case aF=>exact fun k_ hk=>.inr (Nat.le_trans HB.1.size hk))
 (case aO=>exact HN.1)
 (case aB=>exact HW.1)
 (case aS=>exact HW.1.size)
 (case aL=>have:=LM.1;omega)
 intro v1 w1 ho hb hg hat;have HRn:=J ho;have Ez:=J hb;have vt:=J hg;clear ho hb hg hat;replace BKgp:=J (bW BKgp.1 vt.1 (Kd.bK HN.1 BKgp.1 (by decide)));replace BKb:=J (bW BKb.1 vt.1 (Kd.bK HN.1 BKb.1 (by decide)));replace BKge:=J (bW BKge.1 (show wz.grownBy w1 _ from vt.1) (fun e_=>by have fp:=Kd.cP Aj.1 ge e_.symm;have fq:=GEge.1;omega));refine hK.out _ _ ⟨(dS BKgp.1 0).trans rfl,(dS BKge.1 0).trans rfl,(dS BKge.1 1).trans rfl,(dS BKb.1 1).trans rfl⟩ (fun hHeld=>?_);clear hK K;refine bD 11 ?_;refine ai 8 12 HT_.1 (mb 9 2) ?_;refine ai 9 13 HT_.1 (mb 10 1) ?_;refine xQ (i:=10) (N:=none) (mb 11 0) rfl rfl (zx HT_.1 (by kernel_rfl)) (by decide) (fun K hK=>?_);have hfz:=fO BKb.1 1;have LS:=hHeld.2.2.2;obtain⟨An,cn,en⟩:=Kd.bL HRn.1;subst en;refine sn (w1:=?_) (by rfl) rfl ?_ ?_
 rotate_left
 ·go_simp;rfl
 refine hK.out _ _ ?_;clear hK K;refine et (gg HT_.1 (by kernel_rfl)) ?_;have hlen:(l0++[(⟨e0,e1⟩:ah)]).length=l0.length+1:=by simp
 rw[←hlen];clear hlen;have YI:Kept w w1 (fun k_=>k_=gb∨some k_=((.slice A0 l0.length c0):Value).ownBlock):=Kept.zv vt.1 (Kept.te HB.1 _) (fun k_ e_=>.inl (.inr e_.symm));have hgbw:w.heap.size≤gb∨gb<w.heap.size:=by omega
 have Jw:=J (Kd.Ph HRn.1 BKb.1 (by decide) 1 (Value.slice An (l0++[(⟨e0,e1⟩:ah)]).length cn));have NQ:=J (aC BKb.1 1 (Value.slice An (l0++[(⟨e0,e1⟩:ah)]).length cn) rfl);have hpb:gp≠gb:=Mv.pL (L:=[71]) ⟨_,List.mem_cons_self,_,BKgp.1⟩ BKb.1 (by decide);have NR:=J (qd BKgp.1 (p:=⟨gb,1,none⟩) hpb (Value.slice An (l0++[(⟨e0,e1⟩:ah)]).length cn));have V1:=J (ic (j:=1) (v:=(Value.slice An (l0++[(⟨e0,e1⟩:ah)]).length cn)) Ez.1 hge);have lK:Kept w (w1.setCell ⟨gb,1,none⟩ (Value.slice An (l0++[(⟨e0,e1⟩:ah)]).length cn)) (fun k_=>k_=gb∨some k_=((.slice A0 l0.length c0):Value).ownBlock):=Kept.setCell YI (.inl (.inl rfl)) _;obtain⟨dI,cap,he,_,_,_⟩:=Kd.Pa Jw.1 (by simp);injection he with ur ZU Gs
 subst ur;subst Gs;have hcx:(w1.setCell ⟨gb,1,none⟩ (Value.slice (some ⟨dI,0,none⟩) (l0++[(⟨e0,e1⟩:ah)]).length cn)).cell? ⟨gp,0,none⟩=some (.pointer (some ⟨gb,0,none⟩)):=(dS NR.1 0).trans rfl;have hcy:(w1.setCell ⟨gb,1,none⟩ (Value.slice (some ⟨dI,0,none⟩) (l0++[(⟨e0,e1⟩:ah)]).length cn)).cell? ⟨gb,1,none⟩=some (.slice (some ⟨dI,0,none⟩) (l0++[(⟨e0,e1⟩:ah)]).length cn):=(dS NQ.1 1).trans rfl;generalize hwq:w1.setCell ⟨gb,1,none⟩ (Value.slice (some ⟨dI,0,none⟩) (l0++[(⟨e0,e1⟩:ah)]).length cn)=wq at Jw NQ NR V1 lK hcx hcy ⊢
 clear hwq HRn BKb BKgp BKge Ez vt HN HNz HB YI;generalize hxs:(l0++[(⟨e0,e1⟩:ah)])=xs at *
 have SR:1≤xs.length:=by rw[←hxs];simp
 have xF:xs.length<4611686018427387904:=by rw[←hxs,List.length_append,List.length_singleton];have:=LM.1;omega
 have HXG:=J (show bn.sort (l0++[(⟨e0,e1⟩:ah)])=bn.sort xs from by rw[hxs]);clear hxs;go_wp2_with (first|((with_reducible refine bm (f:=94) rfl ?_);refine AU (some 20) rfl rfl Try.func94 (by kernel_rfl) rfl #[.iface 28 (.slice (some ⟨dI,0,none⟩) xs.length cn),.func (.func 95) #[] #[.pointer (some ⟨gp,0,none⟩)]] rfl (by (try simp only[List.map_toArray,List.map_cons,List.map_nil]);first|done|rfl) ?_;(refine(bn.slice gp gb dI cn W.heap.size u0 u2 u3 xs _ _ W NR.1 NQ.1 Jw.1 SR xF (Nat.le_refl _) V1.1).mono ?_);rintro e w5 ⟨rfl,SH,Y5,YJ,hk5⟩;refine⟨_,rfl,?_⟩))
 first|go_end0|((try simp only[Exit.inBlock,Exit.then]);refine bodyPost_ret (results_none rfl _ _ _) rfl ?_)
 have YW:Kept w w5 (fun k_=>k_=gb∨some k_=((.slice A0 l0.length c0):Value).ownBlock):=lK.Cc hk5 (fun k_ e_=>by
  rcases Jw.1.1 k_ e_.symm with h1|h1
  ·exact .inl (.inr h1)
  ·exact .inr h1)
 rw[←HXG.1]at SH
 first|exact⟨_,rfl,SH,Y5,YJ,YW⟩|exact⟨rfl,_,SH,Y5,YJ,YW⟩
namespace Mv
section
variable {W w w1 w2:World} {gb:Nat} {vI vN vS v0:Value} {l0:List (aj)} {l1 l2 r:List (ah)} {n:Int} {u0 u2 u3:Value}
theorem Tj (h:Kept w w1 (tN w gb)) (k:Kept w1 w2 (tN w1 gb)):Kept w w2 (tN w gb):=h.Cc k (fun k_ ho=>by
 by_cases hc:tN w gb k_
 ·exact .inl hc
 ·by_cases hl:w.heap.size≤k_
  ·exact .inr hl
  ·rcases ho with rfl|⟨q,hq,cells,hx⟩
   ·exact .inl (.inl rfl)
   ·exact .inl (.inr ⟨q,hq,cells,(h.2 k_ (by omega) hc).symm.trans hx⟩))
theorem apg {vN:Value} (hI:Kd.S bu 80 w W.heap.size (fun _=>True) vI l0) (hN:Kd.R ay 63 w W.heap.size (fun k_=>some k_≠vS.ownBlock) vN l1) (hS:Kd.R ay 63 w W.heap.size (fun k_=>some k_≠vN.ownBlock) vS l2)
 (hbk:w.heap[gb]? = some (.cells #[u0,vN,u2,u3] 30 (0,0))) (hr:Kd.R ay 63 w1 W.heap.size (fun k_=>some k_=vN.ownBlock∨w.heap.size≤k_) v0 r) (hk:Kept w w1 (fun k_=>k_=gb∨some k_=vN.ownBlock)) :
 Kd.S bu 80 w1 W.heap.size (fun _=>True) vI l0∧Kd.R ay 63 w1 W.heap.size (fun k_=>some k_≠vS.ownBlock) v0 r∧Kd.R ay 63 w1 W.heap.size (fun k_=>some k_≠v0.ownBlock) vS l2∧Kept w w1 (tN w gb):=by
 refine⟨Kd.gI (Kd.agI (Kd.oK hI) hk (fun k_ hk_ hs=>?_)) (fun _ _=>trivial),Kd.CV rfl hr (fun k_ hk_ e=>?_),Kd.CV rfl (Kd.Pb (Kd.mI rfl hS) hk (fun k_ hk_ hs=>?_)) (fun k_ hk_ e=>?_),hk.mono (fun k_ hs=>?_)⟩
 ·rcases hs with rfl|hs
  ·exact pL hk_.2.2.2 hbk (by decide) rfl
  ·obtain⟨cells,hc⟩:=Kd.fC hN k_ hs.symm;exact pL hk_.2.2.2 hc (by decide) rfl
 ·rcases hr.1 k_ hk_ with h1|h1
  ·exact hN.1 k_ h1.symm e
  ·have:=Kd.cP hS k_ e.symm;omega
 ·rcases hs with rfl|hs
  ·obtain⟨cells,hc⟩:=Kd.fC hS k_ hk_.symm;rw[hbk]at hc;injection hc with hc
   injection hc with _ hc
   exact absurd hc (by decide)
  ·exact hS.1 k_ hk_.symm hs
 ·rcases hr.1 k_ e.symm with h1|h1
  ·exact hS.1 k_ hk_ h1
  ·have:=Kd.cP hS k_ hk_;omega
 ·rcases hs with rfl|hs
  ·exact .inl rfl
  ·obtain⟨cells,hc⟩:=Kd.fC hN k_ hs.symm;exact .inr ⟨63,by decide,cells,hc⟩
end
end Mv
end Go.Proofs.Ytgpkdbnikcghgaa.MD
