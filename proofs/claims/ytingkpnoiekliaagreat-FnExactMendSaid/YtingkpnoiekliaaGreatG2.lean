/- Walks and plain laws, put together: no condition of their own. -/
import Derived.Test.YtingkpnoiekliaaGreatVAll
import Derived.Test.YtingkpnoiekliaaGreatG1
section
namespace Go.Proofs.YtingkpnoiekliaaGreat.MZ
open Go.RowKit Go.Proofs.YtingkpnoiekliaaGreatW.PrintWords Go.Proofs.YtingkpnoiekliaaGreatW.PrintLast Go.Proofs.YtingkpnoiekliaaGreatW.PrintMore Go.Proofs.YtingkpnoiekliaaGreat.MWords
attribute [local go_sem] max2_int min2_int max_two min_two max_three min_three max_four min_four
set_option linter.unusedVariables false
set_option linter.unusedSimpArgs false
def lg.f (a0:Int) (a1:Int) (a2:Int):Option (Bool):=if a0≥a1 then (some (decide (a0≤a2))) else (some false)
set_option maxHeartbeats 8000000 in
set_option maxRecDepth 100000 in
theorem lg.calls (a0:Int) (a1:Int) (a2:Int) (r:Bool) (w:World) (h:lg.f a0 a1 a2=some r) :
 Calls Tryz.prog 107 #[.int .i64 a0,.int .i64 a1,.int .i64 a2] w fun e w'=>e = .returned (.bool r)∧ay w w':=by
 have H:(if a0≥a1 then (some (decide (a0≤a2))) else (some false))=some r:=h;clear h;by_cases c4:a0≥a1
 ·rw[if_pos c4]at H;have cV:decide (a1≤a0)=true:=decide_eq_true c4;clear c4;obtain rfl:=Option.some.inj H;go_enter Tryz.func107,Tryz.ntmps107;go_wp2;go_ret;exact⟨mE,by repeat (first|exact ay.refl _|apply ay.step)⟩
 ·rw[if_neg c4]at H;have cV:decide (a1≤a0)=false:=decide_eq_false c4;clear c4;obtain rfl:=Option.some.inj H;go_enter Tryz.func107,Tryz.ntmps107;go_wp2;go_ret;exact⟨mE,by repeat (first|exact ay.refl _|apply ay.step)⟩
def nY.U:Nat→List (aa)→Int→Int→Option (Bool)
 |0,_,_,_=>none
 |k+1,x0,x1,x5=>if x5<(x0.length:Int) then (if 0≤x5 then (if ((aG x0 x5).f1)=x1 then (some true) else (nY.U k x0 x1 (wrap64 (x5+1)))) else (none)) else (some false)
def nY.f (k:Nat) (U:List (aa)) (a1:Int):Option (Bool):=nY.U k U a1 0
set_option maxHeartbeats 8000000 in
set_option maxRecDepth 100000 in
theorem nY.calls (k:Nat) (A0:Option Addr) (c0:Nat) (U:List (aa)) (a1:Int) (r:Bool) (w:World) (bJ:Kd.C an w A0 U.length U) (bz:U.length≤c0) (h:nY.f k U a1=some r) :
 Calls Tryz.prog 108 #[.slice A0 U.length c0,.int .i64 a1] w fun e w'=>e = .returned (.bool r)∧ay w w':=by
 have bB:=J bJ;have eb:=J bz;clear bJ bz;have H:(nY.U k U a1 0)=some r:=h;clear h;have H':=J H;clear H;go_enter Tryz.func108,Tryz.ntmps108;go_wp2;go_loopg [5] k (fun kq v5 w'=>∃(ah:Int),v5 = .int .i64 ah∧Aside0 (nY.U kq U a1 ah=some r)∧Aside0 (kq≤k)∧ay w w')
 case atStart=>exact⟨(0),mE,H',⟨Nat.le_refl _⟩,by repeat (first|exact ay.refl _|apply ay.step)⟩
 case round=>
  clear H'
  obtain⟨ah,rfl,HA,aQ,⟨m1,rfl⟩⟩:=hrel;cases gk with
  |zero=>exact absurd HA.1 (by simp[nY.U])
  |succ k1=>
   have H:=HA.1;clear HA;simp only[nY.U]at H;by_cases c3:ah<(U.length:Int)
   ·rw[if_pos c3]at H;have cS:=decide_eq_true c3;clear c3;by_cases c4:0≤ah
    ·rw[if_pos c4]at H;have cV:=decide_eq_true c4;clear c4;by_cases c5:((aG U ah).f1)=a1
     ·rw[if_pos c5]at H;have eS:(((aG U ah).f1) == a1)=true:=beq_iff_eq.mpr c5;have rU:(((aG U ah).f1) != a1)=false:=bne_eq_false_iff_eq.mpr c5;clear c5;obtain rfl:=Option.some.inj H;have zL:0≤(ah:Int):=mD;have Ak:ah<(U.length:Int):=mD;obtain⟨aev,OL,akW,akX⟩:=gi bB.1 ah zL Ak;cases OL
      replace zL:=eq_true zL;replace Ak:=eq_true Ak;go_wp2;go_ret;exact⟨mE,by repeat (first|exact ay.refl _|apply ay.step)⟩
     ·rw[if_neg c5]at H;have eS:(((aG U ah).f1) == a1)=false:=beq_eq_false_iff_ne.mpr c5;have rU:(((aG U ah).f1) != a1)=true:=bne_iff_ne.mpr c5;have H':=J H;clear H;have zL:0≤(ah:Int):=mD;have Ak:ah<(U.length:Int):=mD;obtain⟨aev,OL,akW,akX⟩:=gi bB.1 ah zL Ak;cases OL
      replace zL:=eq_true zL;replace Ak:=eq_true Ak;go_wp2;go_roundg k1
      case measure=>have:=aQ.1;omega
      case rel=>exact⟨(wrap64 (ah+1)),mE,H',⟨by have:=aQ.1;omega⟩,by repeat (first|exact ay.refl _|apply ay.step)⟩
    ·rw[if_neg c4]at H;exact absurd H (by simp)
   ·rw[if_neg c3]at H;have cS:=decide_eq_false c3;clear c3;obtain rfl:=Option.some.inj H;go_wp2;go_ret;exact⟨mE,by repeat (first|exact ay.refl _|apply ay.step)⟩
mutual
def eZ.U:Nat→ByteArray→Int→Option (Bool)
 |0,_,_=>none
 |k+1,x0,x3=>if x3<(x0.size:Int) then (if 0≤x3 then ((lg.f (wrap64 (bt x0 x3)) 97 122).bind fun Lt=>(if Lt=true then (eZ.j1 k x0 x3 false) else ((lg.f (wrap64 (bt x0 x3)) 48 57).bind fun CR=>(if CR=true then (eZ.j1 k x0 x3 false) else (if (wrap64 (bt x0 x3))=45 then (eZ.j1 k x0 x3 false) else (eZ.j1 k x0 x3 ((wrap64 (bt x0 x3)) != 46))))))) else (none)) else (some true)
def eZ.j1:Nat→ByteArray→Int→Bool→Option (Bool)
 |0,_,_,_=>none
 |k+1,x0,x3,x34=>if x34=true then (some false) else (eZ.U k x0 (wrap64 (x3+1)))
end
def eZ.f (k:Nat) (a0:ByteArray):Option (Bool):=(lg.f (a0.size:Int) 1 12).bind fun CQ=>(if CQ=true then (eZ.U k a0 0) else (some false))
set_option maxHeartbeats 8000000 in
set_option maxRecDepth 100000 in
theorem eZ.calls (k:Nat) (a0:ByteArray) (r:Bool) (w:World) (h:eZ.f k a0=some r) :
 Calls Tryz.prog 72 #[.string a0] w fun e w'=>e = .returned (.bool r)∧ay w w':=by
 have H:((lg.f (a0.size:Int) 1 12).bind fun CQ=>(if CQ=true then (eZ.U k a0 0) else (some false)))=some r:=h;clear h;replace H:=Option.bind_eq_some_iff.mp H;obtain⟨CQ,oO,H⟩:=H;replace H:(if CQ=true then (eZ.U k a0 0) else (some false))=some r:=H;have A2:=J oO;clear oO;by_cases c3:CQ=true
 ·subst c3;have H1:=H;rw[if_pos rfl]at H1;clear H;have H:=H1;clear H1;have H':=J H;clear H;go_enter Tryz.func72,Tryz.ntmps72;go_wp2_with (first|((with_reducible refine aJ (f:=107) rfl ?_);refine bA 7 Tryz.func107 #[.int .i64 (a0.size:Int),.int .i64 1,.int .i64 12] ?_;(with_reducible refine(lg.calls (a0.size:Int) 1 12 true _ A2.1).mono ?_);rintro e w' ⟨rfl,⟨nd,rfl⟩⟩;refine⟨_,rfl,?_⟩));go_loopg [3] k (fun kq v3 w'=>∃(ba:Int),v3 = .int .i64 ba∧Aside0 (eZ.U kq a0 ba=some r)∧Aside0 (kq≤k)∧ay w w')
  case atStart=>exact⟨(0),mE,H',⟨Nat.le_refl _⟩,by repeat (first|exact ay.refl _|apply ay.step)⟩
  case round=>
   clear H'
   try clear c3
   obtain⟨ba,rfl,HA,aQ,⟨m1,rfl⟩⟩:=hrel;cases gk with
   |zero=>exact absurd HA.1 (by simp[eZ.U])
   |succ k1=>
    have H:=HA.1;clear HA;simp only[eZ.U]at H;by_cases c4:ba<(a0.size:Int)
    ·rw[if_pos c4]at H;have cV:=decide_eq_true c4;clear c4;by_cases c5:0≤ba
     ·rw[if_pos c5]at H;have eS:=decide_eq_true c5;clear c5;have ya:=J H;clear H;have p6:0≤(ba:Int):=mD;have q6:ba<(a0.size:Int):=mD;have hx6:=Vm a0 ba;replace p6:=eq_true p6;replace q6:=eq_true q6;go_upto_region 7 with (fail)
      go_cut [34] (fun v34 wc=>∃(kq:Nat) (LU:Bool),v34 = .bool LU∧Aside0 (eZ.j1 kq a0 ba LU=some r)∧Aside0 (kq≤k1)∧ay w wc)
      case first=>
       have H:=ya.1;clear ya;replace H:=Option.bind_eq_some_iff.mp H;obtain⟨Lt,mv,H⟩:=H;replace H:(if Lt=true then (eZ.j1 k1 a0 ba false) else ((lg.f (wrap64 (bt a0 ba)) 48 57).bind fun CR=>(if CR=true then (eZ.j1 k1 a0 ba false) else (if (wrap64 (bt a0 ba))=45 then (eZ.j1 k1 a0 ba false) else (eZ.j1 k1 a0 ba ((wrap64 (bt a0 ba)) != 46))))))=some r:=H;have A8:=J mv;clear mv;by_cases c9:Lt=true
       ·subst c9;have H1:=H;rw[if_pos rfl]at H1;clear H;have H:=H1;clear H1;have H':=J H;clear H;go_wp2_with (first|((with_reducible refine aJ (f:=107) rfl ?_);refine bA 20 Tryz.func107 #[.int .i64 (wrap64 (bt a0 ba)),.int .i64 97,.int .i64 122] ?_;(with_reducible refine(lg.calls (wrap64 (bt a0 ba)) 97 122 true _ A8.1).mono ?_);rintro e w' ⟨rfl,⟨nd,rfl⟩⟩;refine⟨_,rfl,?_⟩));go_meet
        case rel=>exact⟨_,(false),mE,H',⟨by have:=aQ.1;first|omega|exact Nat.le_refl _⟩,by repeat (first|exact ay.refl _|apply ay.step)⟩
       ·replace c9:=Bool.eq_false_iff.mpr c9;subst c9;have H1:=H;rw[if_neg (show ¬(false=true) by decide)]at H1;clear H;have H:=H1;clear H1;replace H:=Option.bind_eq_some_iff.mp H;obtain⟨CR,oN,H⟩:=H;replace H:(if CR=true then (eZ.j1 k1 a0 ba false) else (if (wrap64 (bt a0 ba))=45 then (eZ.j1 k1 a0 ba false) else (eZ.j1 k1 a0 ba ((wrap64 (bt a0 ba)) != 46))))=some r:=H;have oM:=J oN;clear oN;by_cases ff:CR=true
        ·subst ff;have H1:=H;rw[if_pos rfl]at H1;clear H;have H:=H1;clear H1;have H':=J H;clear H;go_wp2_with (first|((with_reducible refine aJ (f:=107) rfl ?_);refine bA 20 Tryz.func107 #[.int .i64 (wrap64 (bt a0 ba)),.int .i64 97,.int .i64 122] ?_;(with_reducible refine(lg.calls (wrap64 (bt a0 ba)) 97 122 false _ A8.1).mono ?_);rintro e w' ⟨rfl,⟨nd,rfl⟩⟩;refine⟨_,rfl,?_⟩)|(go_at_call 107;(with_reducible refine(lg.calls (wrap64 (bt a0 ba)) 48 57 true _ oM.1).mono ?_);rintro e w' ⟨rfl,⟨nd,rfl⟩⟩));go_meet
         case rel=>exact⟨_,(false),mE,H',⟨by have:=aQ.1;first|omega|exact Nat.le_refl _⟩,by repeat (first|exact ay.refl _|apply ay.step)⟩
        ·replace ff:=Bool.eq_false_iff.mpr ff;subst ff;have H1:=H;rw[if_neg (show ¬(false=true) by decide)]at H1;clear H;have H:=H1;clear H1;by_cases dI:(wrap64 (bt a0 ba))=45
         ·rw[if_pos dI]at H;have nK:((wrap64 (bt a0 ba)) == 45)=true:=beq_iff_eq.mpr dI;have Ja:((wrap64 (bt a0 ba)) != 45)=false:=bne_eq_false_iff_eq.mpr dI;clear dI
          (first|rw[nK]|(simp only[dJ,gx];rw[nK])|skip)
          have H':=J H;clear H;go_wp2_with (first|((with_reducible refine aJ (f:=107) rfl ?_);refine bA 20 Tryz.func107 #[.int .i64 (wrap64 (bt a0 ba)),.int .i64 97,.int .i64 122] ?_;(with_reducible refine(lg.calls (wrap64 (bt a0 ba)) 97 122 false _ A8.1).mono ?_);rintro e w' ⟨rfl,⟨nd,rfl⟩⟩;refine⟨_,rfl,?_⟩)|(go_at_call 107;(with_reducible refine(lg.calls (wrap64 (bt a0 ba)) 48 57 false _ oM.1).mono ?_);rintro e w' ⟨rfl,⟨nd,rfl⟩⟩));go_meet
          case rel=>exact⟨_,(false),mE,H',⟨by have:=aQ.1;first|omega|exact Nat.le_refl _⟩,by repeat (first|exact ay.refl _|apply ay.step)⟩
         ·rw[if_neg dI]at H;have nK:((wrap64 (bt a0 ba)) == 45)=false:=beq_eq_false_iff_ne.mpr dI;have Ja:((wrap64 (bt a0 ba)) != 45)=true:=bne_iff_ne.mpr dI
          (first|rw[nK]|(simp only[dJ,gx];rw[nK])|skip)
          have H':=J H;clear H;go_wp2_with (first|((with_reducible refine aJ (f:=107) rfl ?_);refine bA 20 Tryz.func107 #[.int .i64 (wrap64 (bt a0 ba)),.int .i64 97,.int .i64 122] ?_;(with_reducible refine(lg.calls (wrap64 (bt a0 ba)) 97 122 false _ A8.1).mono ?_);rintro e w' ⟨rfl,⟨nd,rfl⟩⟩;refine⟨_,rfl,?_⟩)|(go_at_call 107;(with_reducible refine(lg.calls (wrap64 (bt a0 ba)) 48 57 false _ oM.1).mono ?_);rintro e w' ⟨rfl,⟨nd,rfl⟩⟩));go_meet
          case rel=>exact⟨_,(((wrap64 (bt a0 ba)) != 46)),mE,H',⟨by have:=aQ.1;first|omega|exact Nat.le_refl _⟩,by repeat (first|exact ay.refl _|apply ay.step)⟩
      case rest=>
       clear ya
       try clear c3
       try clear c4
       try clear cV
       try clear c5
       try clear eS
       try clear p6
       try clear q6
       try clear hx6
       try clear p6
       try clear q6
       obtain⟨kq,LU,rfl,HA,tV,⟨mc6,rfl⟩⟩:=hcut;cases kq with
       |zero=>exact absurd HA.1 (by simp[eZ.j1])
       |succ KO=>
        have H:=HA.1;clear HA;simp only[eZ.j1]at H;by_cases cY:LU=true
        ·subst cY;have H1:=H;rw[if_pos rfl]at H1;clear H;have H:=H1;clear H1;obtain rfl:=Option.some.inj H;go_wp2;go_ret;exact⟨mE,by repeat (first|exact ay.refl _|apply ay.step)⟩
        ·replace cY:=Bool.eq_false_iff.mpr cY;subst cY;have H1:=H;rw[if_neg (show ¬(false=true) by decide)]at H1;clear H;have H:=H1;clear H1;have H':=J H;clear H;go_wp2;go_roundg KO
         case measure=>have:=aQ.1;have:=tV.1;omega
         case rel=>exact⟨(wrap64 (ba+1)),mE,H',⟨by have:=aQ.1;have:=tV.1;omega⟩,by repeat (first|exact ay.refl _|apply ay.step)⟩
     ·rw[if_neg c5]at H;exact absurd H (by simp)
    ·rw[if_neg c4]at H;have cV:=decide_eq_false c4;clear c4;obtain rfl:=Option.some.inj H;go_wp2;go_ret;exact⟨mE,by repeat (first|exact ay.refl _|apply ay.step)⟩
 ·replace c3:=Bool.eq_false_iff.mpr c3;subst c3;have H1:=H;rw[if_neg (show ¬(false=true) by decide)]at H1;clear H;have H:=H1;clear H1;obtain rfl:=Option.some.inj H;go_enter Tryz.func72,Tryz.ntmps72;go_wp2_with (first|((with_reducible refine aJ (f:=107) rfl ?_);refine bA 7 Tryz.func107 #[.int .i64 (a0.size:Int),.int .i64 1,.int .i64 12] ?_;(with_reducible refine(lg.calls (a0.size:Int) 1 12 false _ A2.1).mono ?_);rintro e w' ⟨rfl,⟨nd,rfl⟩⟩;refine⟨_,rfl,?_⟩));go_ret;exact⟨mE,by repeat (first|exact ay.refl _|apply ay.step)⟩
def gK.U:Nat→Int→Int→List (al)→List (aa)→List (aa)→Int→Option (Int)
 |0,_,_,_,_,_,_=>none
 |k+1,x1,x5,SK,aor,aos,aot=>if x5<(SK.length:Int) then (if 0≤x5 then (if ((ai SK x5).f0)=x1 then (some x5) else (gK.U k x1 (wrap64 (x5+1)) SK aor aos aot)) else (none)) else (some (-1))
def gK.f (k:Nat) (ab:List (al)) (af:List (aa)) (aj:List (aa)) (ak:Int) (a1:Int):Option (Int):=gK.U k a1 0 ab af aj ak
set_option maxHeartbeats 8000000 in
set_option maxRecDepth 100000 in
theorem gK.calls (k:Nat) (aE:Option Addr) (av:Nat) (ab:List (al)) (aq:Option Addr) (ao:Nat) (af:List (aa)) (aC:Option Addr) (aD:Nat) (aj:List (aa)) (ak:Int) (a1:Int) (r:Int) (w:World) (cI:Kd.C bc w aE ab.length ab) (cG:ab.length≤av) (cr:Kd.C an w aq af.length af) (cq:af.length≤ao) (cJ:Kd.C an w aC aj.length aj) (cH:aj.length≤aD) (h:gK.f k ab af aj ak a1=some r) :
 Calls Tryz.prog 74 #[.agg #[.slice aE ab.length av,.slice aq af.length ao,.slice aC aj.length aD,.int .i64 ak],.int .i64 a1] w fun e w'=>e = .returned (.int .i64 r)∧Below w.heap.size w w':=by
 have kZ:=Tryz.underlying27;have ca:=J cI;have cA:=J cG;clear cI cG;have bW:=J cr;have cd:=J cq;clear cr cq;have cD:=J cJ;have cL:=J cH;clear cJ cH;have HB:=J (Below.refl w.heap.size w);have H:(gK.U k a1 0 ab af aj ak)=some r:=h;clear h;have H':=J H;clear H;go_enter Tryz.func74,Tryz.ntmps74;go_wp2_with (first|((with_reducible refine aH (N:=2) rfl ?_);refine aT 2 #[.slice aE ab.length av,.slice aq af.length ao,.slice aC aj.length aD,.int .i64 ak] 27 ?_;intro agX hg w3 hbox hb;have Bi:=J (hbox);have ao3:=mG hg (mH HB.1);have Iz:=mG hg (mH HB.1);replace HB:=J (ar (mH HB.1) hb);clear hb hbox hg));go_loopg [5] k (fun kq v5 w'=>∃(ah:Int),v5 = .int .i64 ah∧Aside0 (gK.U kq a1 ah ab af aj ak=some r)∧Aside0 (kq≤k)∧Aside0 (w'.heap[agX]? = some (.cells #[(.slice aE ab.length av),(.slice aq af.length ao),(.slice aC aj.length aD),.int .i64 ak] 27 (0,0)))∧Aside0 (Below w.heap.size w w'))
 case atStart=>exact⟨(0),mE,H',⟨Nat.le_refl _⟩,⟨mK Bi.1⟩,⟨(aI HB.1 Iz.1)⟩⟩
 case round=>
  clear H'
  obtain⟨ah,rfl,HA,aQ,Bi,HB⟩:=hrel;cases gk with
  |zero=>exact absurd HA.1 (by simp[gK.U])
  |succ k1=>
   have H:=HA.1;clear HA;simp only[gK.U]at H;by_cases c4:ah<(ab.length:Int)
   ·rw[if_pos c4]at H;have cV:=decide_eq_true c4;clear c4;by_cases c5:0≤ah
    ·rw[if_pos c5]at H;have eS:=decide_eq_true c5;clear c5;by_cases c6:((ai ab ah).f0)=a1
     ·rw[if_pos c6]at H;have eh:(((ai ab ah).f0) == a1)=true:=beq_iff_eq.mpr c6;have o8:(((ai ab ah).f0) != a1)=false:=bne_eq_false_iff_eq.mpr c6;clear c6;obtain rfl:=Option.some.inj H;obtain⟨W6,W7,ase,asf,Xw,Xx,auR,auS⟩:=bk Bi.1;have zM:0≤(ah:Int):=mD;have Al:ah<(ab.length:Int):=mD;obtain⟨aew,abd,afb,OM,Gj,Gk,Gl,Fy,Fl⟩:=hY ca.1 ah zM Al;cases OM
      replace Gj:=mX HB.1 Gj;replace Gk:=mX HB.1 Gk;replace Gl:=mX HB.1 Gl;have acg:=J Fl;have abN:=J Fy;clear Fl Fy;replace zM:=eq_true zM;replace Al:=eq_true Al;go_wp2;go_ret;exact⟨bN,(aI HB.1 Iz.1)⟩
     ·rw[if_neg c6]at H;have eh:(((ai ab ah).f0) == a1)=false:=beq_eq_false_iff_ne.mpr c6;have o8:(((ai ab ah).f0) != a1)=true:=bne_iff_ne.mpr c6;have H':=J H;clear H;obtain⟨B9,Ca,P7,aiH,Cg,Ch,Qz,aka⟩:=bk Bi.1;have zM:0≤(ah:Int):=mD;have Al:ah<(ab.length:Int):=mD;obtain⟨aew,abd,afb,OM,Gj,Gk,Gl,Fy,Fl⟩:=hY ca.1 ah zM Al;cases OM
      replace Gj:=mX HB.1 Gj;replace Gk:=mX HB.1 Gk;replace Gl:=mX HB.1 Gl;have acg:=J Fl;have abN:=J Fy;clear Fl Fy;replace zM:=eq_true zM;replace Al:=eq_true Al;go_wp2;go_roundg k1
      case measure=>have:=aQ.1;omega
      case rel=>exact⟨(wrap64 (ah+1)),mE,H',⟨by have:=aQ.1;omega⟩,⟨mK Bi.1⟩,⟨(aI HB.1 Iz.1)⟩⟩
    ·rw[if_neg c5]at H;exact absurd H (by simp)
   ·rw[if_neg c4]at H;have cV:=decide_eq_false c4;clear c4;obtain rfl:=Option.some.inj H;obtain⟨Cb,Cc,J6,J7,Ci,Cj,Ko,Kp⟩:=bk Bi.1;go_wp2;go_ret;exact⟨bN,(aI HB.1 Iz.1)⟩
end Go.Proofs.YtingkpnoiekliaaGreat.MZ
end
section
namespace Go.Proofs.YtingkpnoiekliaaGreat.MZ
open Go.RowKit Go.Proofs.YtingkpnoiekliaaGreatW.PrintWords Go.Proofs.YtingkpnoiekliaaGreatW.PrintLast Go.Proofs.YtingkpnoiekliaaGreatW.PrintMore Go.Proofs.YtingkpnoiekliaaGreat.MWords
attribute [local go_sem] max2_int min2_int max_two min_two max_three min_three max_four min_four
set_option linter.unusedVariables false
set_option linter.unusedSimpArgs false
def qT.f (a0:Int) (a1:Int) (a2:Int):Option (Bool):=if a0≥a1 then (some (decide (a0≤a2))) else (some false)
set_option maxHeartbeats 8000000 in
set_option maxRecDepth 100000 in
theorem qT.calls (a0:Int) (a1:Int) (a2:Int) (r:Bool) (w:World) (h:qT.f a0 a1 a2=some r) :
 Calls Tryz.prog 38 #[.int .i64 a0,.int .i64 a1,.int .i64 a2] w fun e w'=>e = .returned (.bool r)∧ay w w':=by
 have H:(if a0≥a1 then (some (decide (a0≤a2))) else (some false))=some r:=h;clear h;by_cases c4:a0≥a1
 ·rw[if_pos c4]at H;have cV:decide (a1≤a0)=true:=decide_eq_true c4;clear c4;obtain rfl:=Option.some.inj H;go_enter Tryz.func38,Tryz.ntmps38;go_wp2;go_ret;exact⟨mE,by repeat (first|exact ay.refl _|apply ay.step)⟩
 ·rw[if_neg c4]at H;have cV:decide (a1≤a0)=false:=decide_eq_false c4;clear c4;obtain rfl:=Option.some.inj H;go_enter Tryz.func38,Tryz.ntmps38;go_wp2;go_ret;exact⟨mE,by repeat (first|exact ay.refl _|apply ay.step)⟩
def jA.U:Nat→Int→List (aa)→Int→Int→Option (Bool)
 |0,_,_,_,_=>none
 |k+1,x1,x7,x8,x9=>if x9<x8 then (if 0≤x9 then (if x9<(x7.length:Int) then (if ((aG x7 x9).f1)=x1 then (some true) else (jA.U k x1 x7 x8 (wrap64 (x9+1)))) else (none)) else (none)) else (some false)
def jA.f (k:Nat) (U:List (aa)) (a1:Int):Option (Bool):=jA.U k a1 U (U.length:Int) 0
set_option maxHeartbeats 8000000 in
set_option maxRecDepth 100000 in
theorem jA.calls (k:Nat) (A0:Option Addr) (c0:Nat) (U:List (aa)) (a1:Int) (r:Bool) (w:World) (bJ:Kd.C an w A0 U.length U) (bz:U.length≤c0) (h:jA.f k U a1=some r) :
 Calls Tryz.prog 39 #[.slice A0 U.length c0,.int .i64 a1] w fun e w'=>e = .returned (.bool r)∧Below w.heap.size w w':=by
 have zl:=Tryz.underlying89;have bB:=J bJ;have eb:=J bz;clear bJ bz;have HB:=J (Below.refl w.heap.size w);have H:(jA.U k a1 U (U.length:Int) 0)=some r:=h;clear h;have H':=J H;clear H;go_enter Tryz.func39,Tryz.ntmps39;go_wp2;go_loopg [9] k (fun kq v9 w'=>∃(hJ:Int),v9 = .int .i64 hJ∧Aside0 (jA.U kq a1 U (U.length:Int) hJ=some r)∧Aside0 (kq≤k)∧Aside0 (Below w.heap.size w w'))
 case atStart=>exact⟨(0),mE,H',⟨Nat.le_refl _⟩,⟨(mH HB.1)⟩⟩
 case round=>
  clear H'
  obtain⟨hJ,rfl,HA,aQ,HB⟩:=hrel;cases gk with
  |zero=>exact absurd HA.1 (by simp[jA.U])
  |succ k1=>
   have H:=HA.1;clear HA;simp only[jA.U]at H;by_cases c3:hJ<(U.length:Int)
   ·rw[if_pos c3]at H;have cS:=decide_eq_true c3;clear c3;by_cases c4:0≤hJ
    ·rw[if_pos c4]at H;have cV:=decide_eq_true c4;clear c4;by_cases c5:hJ<(U.length:Int)
     ·rw[if_pos c5]at H;have eS:=decide_eq_true c5;clear c5;by_cases c6:((aG U hJ).f1)=a1
      ·rw[if_pos c6]at H;have eh:(((aG U hJ).f1) == a1)=true:=beq_iff_eq.mpr c6;have o8:(((aG U hJ).f1) != a1)=false:=bne_eq_false_iff_eq.mpr c6;clear c6;obtain rfl:=Option.some.inj H;have zH:0≤(hJ:Int):=mD;have Af:hJ<(U.length:Int):=mD;obtain⟨aen,OH,F7,F8⟩:=gi bB.1 hJ zH Af;cases OH
       replace F7:=mX HB.1 F7;replace F8:=mX HB.1 F8;replace zH:=eq_true zH;replace Af:=eq_true Af;go_wp2_with (first|((with_reducible refine aH (N:=6) rfl ?_);refine aT 6 #[.string (⟨#[]⟩:ByteArray),.int .i64 0] 89 ?_;intro agP hg w7 hbox hb;have Me:=J (hbox);have abr:=mG hg (mH HB.1);have Mx:=mG hg (mH HB.1);replace HB:=J (ar (mH HB.1) hb);clear hb hbox hg;obtain⟨B9,Ca,Cg,Ch⟩:=jX Me.1));go_ret;exact⟨bN,(aI HB.1 Mx.1)⟩
      ·rw[if_neg c6]at H;have eh:(((aG U hJ).f1) == a1)=false:=beq_eq_false_iff_ne.mpr c6;have o8:(((aG U hJ).f1) != a1)=true:=bne_iff_ne.mpr c6;have H':=J H;clear H;have zH:0≤(hJ:Int):=mD;have Af:hJ<(U.length:Int):=mD;obtain⟨aen,OH,F7,F8⟩:=gi bB.1 hJ zH Af;cases OH
       replace F7:=mX HB.1 F7;replace F8:=mX HB.1 F8;replace zH:=eq_true zH;replace Af:=eq_true Af;go_wp2_with (first|((with_reducible refine aH (N:=6) rfl ?_);refine aT 6 #[.string (⟨#[]⟩:ByteArray),.int .i64 0] 89 ?_;intro agP hg w9 hbox hb;have Me:=J (hbox);have abr:=mG hg (mH HB.1);have Mx:=mG hg (mH HB.1);replace HB:=J (ar (mH HB.1) hb);clear hb hbox hg;obtain⟨se,sf,sh,si⟩:=jX Me.1));go_roundg k1
       case measure=>have:=aQ.1;omega
       case rel=>exact⟨(wrap64 (hJ+1)),mE,H',⟨by have:=aQ.1;omega⟩,⟨(aI HB.1 Mx.1)⟩⟩
     ·rw[if_neg c5]at H;exact absurd H (by simp)
    ·rw[if_neg c4]at H;exact absurd H (by simp)
   ·rw[if_neg c3]at H;have cS:=decide_eq_false c3;clear c3;obtain rfl:=Option.some.inj H;go_wp2;go_ret;exact⟨bN,(mH HB.1)⟩
mutual
def fI.U:Nat→ByteArray→Int→Option (Bool)
 |0,_,_=>none
 |k+1,x0,x3=>if x3<(x0.size:Int) then (if 0≤x3 then (if (bt x0 x3)≥97 then (if ((bt x0 x3)≤122) then (fI.j1 k x0 x3 false) else (if (bt x0 x3)≥48 then (if ((bt x0 x3)≤57) then (fI.j1 k x0 x3 false) else (if (bt x0 x3)=45 then (fI.j1 k x0 x3 false) else (fI.j1 k x0 x3 ((bt x0 x3) != 46)))) else (if (bt x0 x3)=45 then (fI.j1 k x0 x3 false) else (fI.j1 k x0 x3 ((bt x0 x3) != 46))))) else (if (bt x0 x3)≥48 then (if ((bt x0 x3)≤57) then (fI.j1 k x0 x3 false) else (if (bt x0 x3)=45 then (fI.j1 k x0 x3 false) else (fI.j1 k x0 x3 ((bt x0 x3) != 46)))) else (if (bt x0 x3)=45 then (fI.j1 k x0 x3 false) else (fI.j1 k x0 x3 ((bt x0 x3) != 46))))) else (none)) else ((qT.f (x0.size:Int) 1 12).bind fun t103=>(some t103))
def fI.j1:Nat→ByteArray→Int→Bool→Option (Bool)
 |0,_,_,_=>none
 |k+1,x0,x3,x37=>if x37=true then (some false) else (fI.U k x0 (wrap64 (x3+1)))
end
def fI.f (k:Nat) (a0:ByteArray):Option (Bool):=fI.U k a0 0
set_option maxHeartbeats 8000000 in
set_option maxRecDepth 100000 in
theorem fI.calls (k:Nat) (a0:ByteArray) (r:Bool) (w:World) (h:fI.f k a0=some r) :
 Calls Tryz.prog 26 #[.string a0] w fun e w'=>e = .returned (.bool r)∧ay w w':=by
 have H:(fI.U k a0 0)=some r:=h;clear h;have H':=J H;clear H;go_enter Tryz.func26,Tryz.ntmps26;go_wp2;go_loopg [3] k (fun kq v3 w'=>∃(ba:Int),v3 = .int .i64 ba∧Aside0 (fI.U kq a0 ba=some r)∧Aside0 (kq≤k)∧ay w w')
 case atStart=>exact⟨(0),mE,H',⟨Nat.le_refl _⟩,by repeat (first|exact ay.refl _|apply ay.step)⟩
 case round=>
  clear H';obtain⟨ba,rfl,HA,aQ,⟨m1,rfl⟩⟩:=hrel;cases gk with
  |zero=>exact absurd HA.1 (by simp[fI.U])
  |succ k1=>
   have H:=HA.1;clear HA;simp only[fI.U]at H;by_cases c2:ba<(a0.size:Int)
   ·rw[if_pos c2]at H;have mV:=decide_eq_true c2;clear c2;by_cases c3:0≤ba
    ·rw[if_pos c3]at H;have cS:=decide_eq_true c3;clear c3;have xW:=J H;clear H;have p4:0≤(ba:Int):=mD;have q4:ba<(a0.size:Int):=mD;have Yr:=Vm a0 ba;replace p4:=eq_true p4;replace q4:=eq_true q4;go_upto_region 5 with (fail)
     go_cut [37] (fun v37 wc=>∃(kq:Nat) (LW:Bool),v37 = .bool LW∧Aside0 (fI.j1 kq a0 ba LW=some r)∧Aside0 (kq≤k1)∧ay w wc)
     case first=>
      have H:=xW.1;clear xW;by_cases c6:(bt a0 ba)≥97
      ·rw[if_pos c6]at H;have eh:decide (97≤(bt a0 ba))=true:=decide_eq_true c6;clear c6
       (first|rw[eh]|(simp only[dJ,gx];rw[eh])|skip)
       by_cases c7:((bt a0 ba)≤122)
       ·rw[if_pos c7]at H;have jN:decide ((bt a0 ba)≤122)=true:=decide_eq_true c7;clear c7;have H':=J H;clear H;go_wp2;go_meet
        case rel=>exact⟨_,(false),mE,H',⟨by have:=aQ.1;first|omega|exact Nat.le_refl _⟩,by repeat (first|exact ay.refl _|apply ay.step)⟩
       ·rw[if_neg c7]at H;have jN:decide ((bt a0 ba)≤122)=false:=decide_eq_false c7;clear c7;by_cases c8:(bt a0 ba)≥48
        ·rw[if_pos c8]at H;have nL:decide (48≤(bt a0 ba))=true:=decide_eq_true c8;clear c8;by_cases c9:((bt a0 ba)≤57)
         ·rw[if_pos c9]at H;have ma:decide ((bt a0 ba)≤57)=true:=decide_eq_true c9;clear c9;have H':=J H;clear H;go_wp2;go_meet
          case rel=>exact⟨_,(false),mE,H',⟨by have:=aQ.1;first|omega|exact Nat.le_refl _⟩,by repeat (first|exact ay.refl _|apply ay.step)⟩
         ·rw[if_neg c9]at H;have ma:decide ((bt a0 ba)≤57)=false:=decide_eq_false c9;clear c9;by_cases eB:(bt a0 ba)=45
          ·rw[if_pos eB]at H;have yE:((bt a0 ba) == 45)=true:=beq_iff_eq.mpr eB;have ae3:((bt a0 ba) != 45)=false:=bne_eq_false_iff_eq.mpr eB;clear eB;have H':=J H;clear H;go_wp2;go_meet
           case rel=>exact⟨_,(false),mE,H',⟨by have:=aQ.1;first|omega|exact Nat.le_refl _⟩,by repeat (first|exact ay.refl _|apply ay.step)⟩
          ·rw[if_neg eB]at H;have yE:((bt a0 ba) == 45)=false:=beq_eq_false_iff_ne.mpr eB;have ae3:((bt a0 ba) != 45)=true:=bne_iff_ne.mpr eB;have H':=J H;clear H;go_wp2;go_meet
           case rel=>exact⟨_,(((bt a0 ba) != 46)),mE,H',⟨by have:=aQ.1;first|omega|exact Nat.le_refl _⟩,by repeat (first|exact ay.refl _|apply ay.step)⟩
        ·rw[if_neg c8]at H;have nL:decide (48≤(bt a0 ba))=false:=decide_eq_false c8;clear c8;by_cases ff:(bt a0 ba)=45
         ·rw[if_pos ff]at H;have uj:((bt a0 ba) == 45)=true:=beq_iff_eq.mpr ff;have I9:((bt a0 ba) != 45)=false:=bne_eq_false_iff_eq.mpr ff;clear ff;have H':=J H;clear H;go_wp2;go_meet
          case rel=>exact⟨_,(false),mE,H',⟨by have:=aQ.1;first|omega|exact Nat.le_refl _⟩,by repeat (first|exact ay.refl _|apply ay.step)⟩
         ·rw[if_neg ff]at H;have uj:((bt a0 ba) == 45)=false:=beq_eq_false_iff_ne.mpr ff;have I9:((bt a0 ba) != 45)=true:=bne_iff_ne.mpr ff;have H':=J H;clear H;go_wp2;go_meet
          case rel=>exact⟨_,(((bt a0 ba) != 46)),mE,H',⟨by have:=aQ.1;first|omega|exact Nat.le_refl _⟩,by repeat (first|exact ay.refl _|apply ay.step)⟩
      ·rw[if_neg c6]at H;have eh:decide (97≤(bt a0 ba))=false:=decide_eq_false c6;clear c6
       (first|rw[eh]|(simp only[dJ,gx];rw[eh])|skip)
       by_cases dI:(bt a0 ba)≥48
       ·rw[if_pos dI]at H;have nK:decide (48≤(bt a0 ba))=true:=decide_eq_true dI;clear dI;by_cases cY:((bt a0 ba)≤57)
        ·rw[if_pos cY]at H;have o5:decide ((bt a0 ba)≤57)=true:=decide_eq_true cY;clear cY;have H':=J H;clear H;go_wp2;go_meet
         case rel=>exact⟨_,(false),mE,H',⟨by have:=aQ.1;first|omega|exact Nat.le_refl _⟩,by repeat (first|exact ay.refl _|apply ay.step)⟩
        ·rw[if_neg cY]at H;have o5:decide ((bt a0 ba)≤57)=false:=decide_eq_false cY;clear cY;by_cases gq:(bt a0 ba)=45
         ·rw[if_pos gq]at H;have yF:((bt a0 ba) == 45)=true:=beq_iff_eq.mpr gq;have ae5:((bt a0 ba) != 45)=false:=bne_eq_false_iff_eq.mpr gq;clear gq;have H':=J H;clear H;go_wp2;go_meet
          case rel=>exact⟨_,(false),mE,H',⟨by have:=aQ.1;first|omega|exact Nat.le_refl _⟩,by repeat (first|exact ay.refl _|apply ay.step)⟩
         ·rw[if_neg gq]at H;have yF:((bt a0 ba) == 45)=false:=beq_eq_false_iff_ne.mpr gq;have ae5:((bt a0 ba) != 45)=true:=bne_iff_ne.mpr gq;have H':=J H;clear H;go_wp2;go_meet
          case rel=>exact⟨_,(((bt a0 ba) != 46)),mE,H',⟨by have:=aQ.1;first|omega|exact Nat.le_refl _⟩,by repeat (first|exact ay.refl _|apply ay.step)⟩
       ·rw[if_neg dI]at H;have nK:decide (48≤(bt a0 ba))=false:=decide_eq_false dI;clear dI;by_cases lD:(bt a0 ba)=45
        ·rw[if_pos lD]at H;have Jb:((bt a0 ba) == 45)=true:=beq_iff_eq.mpr lD;have ae6:((bt a0 ba) != 45)=false:=bne_eq_false_iff_eq.mpr lD;clear lD;have H':=J H;clear H;go_wp2;go_meet
         case rel=>exact⟨_,(false),mE,H',⟨by have:=aQ.1;first|omega|exact Nat.le_refl _⟩,by repeat (first|exact ay.refl _|apply ay.step)⟩
        ·rw[if_neg lD]at H;have Jb:((bt a0 ba) == 45)=false:=beq_eq_false_iff_ne.mpr lD;have ae6:((bt a0 ba) != 45)=true:=bne_iff_ne.mpr lD;have H':=J H;clear H;go_wp2;go_meet
         case rel=>exact⟨_,(((bt a0 ba) != 46)),mE,H',⟨by have:=aQ.1;first|omega|exact Nat.le_refl _⟩,by repeat (first|exact ay.refl _|apply ay.step)⟩
     case rest=>
      clear xW
      try clear c2
      try clear mV
      try clear c3
      try clear cS
      try clear p4
      try clear q4
      try clear Yr
      try clear p4
      try clear q4
      obtain⟨kq,LW,rfl,HA,MP,⟨fu,rfl⟩⟩:=hcut;cases kq with
      |zero=>exact absurd HA.1 (by simp[fI.j1])
      |succ YZ=>
       have H:=HA.1;clear HA;simp only[fI.j1]at H;by_cases gY:LW=true
       ·subst gY;have H1:=H;rw[if_pos rfl]at H1;clear H;have H:=H1;clear H1;obtain rfl:=Option.some.inj H;go_wp2;go_ret;exact⟨mE,by repeat (first|exact ay.refl _|apply ay.step)⟩
       ·replace gY:=Bool.eq_false_iff.mpr gY;subst gY;have H1:=H;rw[if_neg (show ¬(false=true) by decide)]at H1;clear H;have H:=H1;clear H1;have H':=J H;clear H;go_wp2;go_roundg YZ
        case measure=>have:=aQ.1;have:=MP.1;omega
        case rel=>exact⟨(wrap64 (ba+1)),mE,H',⟨by have:=aQ.1;have:=MP.1;omega⟩,by repeat (first|exact ay.refl _|apply ay.step)⟩
    ·rw[if_neg c3]at H;exact absurd H (by simp)
   ·rw[if_neg c2]at H;have mV:=decide_eq_false c2;clear c2;replace H:=Option.bind_eq_some_iff.mp H;obtain⟨t103,S7,H⟩:=H;replace H:(some t103)=some r:=H;have A17:=J S7;clear S7;obtain rfl:=Option.some.inj H;go_wp2_with (first|((with_reducible refine aJ (f:=38) rfl ?_);refine bA 40 Tryz.func38 #[.int .i64 (a0.size:Int),.int .i64 1,.int .i64 12] ?_;(with_reducible refine(qT.calls (a0.size:Int) 1 12 t103 _ A17.1).mono ?_);rintro e w' ⟨rfl,⟨nd,rfl⟩⟩;refine⟨_,rfl,?_⟩));go_ret;exact⟨mE,by repeat (first|exact ay.refl _|apply ay.step)⟩
def iC.U:Nat→Int→List (al)→Int→Int→Option (Int)
 |0,_,_,_,_=>none
 |k+1,x1,x8,x9,fl=>if fl<x9 then (if 0≤fl then (if fl<(x8.length:Int) then (if ((ai x8 fl).f0)=x1 then (some fl) else (iC.U k x1 x8 x9 (wrap64 (fl+1)))) else (none)) else (none)) else (some (-1))
def iC.f (k:Nat) (ab:List (al)) (af:List (aa)) (aj:List (aa)) (ak:Int) (a1:Int):Option (Int):=iC.U k a1 ab (ab.length:Int) 0
set_option maxHeartbeats 8000000 in
set_option maxRecDepth 100000 in
theorem iC.calls (k:Nat) (aE:Option Addr) (av:Nat) (ab:List (al)) (aq:Option Addr) (ao:Nat) (af:List (aa)) (aC:Option Addr) (aD:Nat) (aj:List (aa)) (ak:Int) (a1:Int) (r:Int) (w:World) (cI:Kd.C bc w aE ab.length ab) (cG:ab.length≤av) (cr:Kd.C an w aq af.length af) (cq:af.length≤ao) (cJ:Kd.C an w aC aj.length aj) (cH:aj.length≤aD) (h:iC.f k ab af aj ak a1=some r) :
 Calls Tryz.prog 35 #[.agg #[.slice aE ab.length av,.slice aq af.length ao,.slice aC aj.length aD,.int .i64 ak],.int .i64 a1] w fun e w'=>e = .returned (.int .i64 r)∧Below w.heap.size w w':=by
 have kZ:=Tryz.underlying27;have wQ:=Tryz.underlying63;have ca:=J cI;have cA:=J cG;clear cI cG;have bW:=J cr;have cd:=J cq;clear cr cq;have cD:=J cJ;have cL:=J cH;clear cJ cH;have HB:=J (Below.refl w.heap.size w);have H:(iC.U k a1 ab (ab.length:Int) 0)=some r:=h;clear h;have H':=J H;clear H;go_enter Tryz.func35,Tryz.ntmps35;go_wp2_with (first|((with_reducible refine aH (N:=2) rfl ?_);refine aT 2 #[.slice aE ab.length av,.slice aq af.length ao,.slice aC aj.length aD,.int .i64 ak] 27 ?_;intro agQ hg w3 hbox hb;have ql:=J (hbox);have aoN:=mG hg (mH HB.1);have sX:=mG hg (mH HB.1);replace HB:=J (ar (mH HB.1) hb);clear hb hbox hg;obtain⟨P0,P1,P2,P3,Qs,Qt,Qu,Qv⟩:=bk ql.1));go_loopg [10] k (fun kq v10 w'=>∃(fN:Int),v10 = .int .i64 fN∧Aside0 (iC.U kq a1 ab (ab.length:Int) fN=some r)∧Aside0 (kq≤k)∧Aside0 (w'.heap[agQ]? = some (.cells #[(.slice aE ab.length av),(.slice aq af.length ao),(.slice aC aj.length aD),.int .i64 ak] 27 (0,0)))∧Aside0 (Below w.heap.size w w'))
 case atStart=>exact⟨(0),mE,H',⟨Nat.le_refl _⟩,⟨mK ql.1⟩,⟨(aI HB.1 sX.1)⟩⟩
 case round=>
  clear H'
  try clear P0
  try clear P1
  try clear P2
  try clear P3
  try clear Qs
  try clear Qt
  try clear Qu
  try clear Qv
  obtain⟨fN,rfl,HA,aQ,ql,HB⟩:=hrel;cases gk with
  |zero=>exact absurd HA.1 (by simp[iC.U])
  |succ k1=>
   have H:=HA.1;clear HA;simp only[iC.U]at H;by_cases c5:fN<(ab.length:Int)
   ·rw[if_pos c5]at H;have eS:=decide_eq_true c5;clear c5;by_cases c6:0≤fN
    ·rw[if_pos c6]at H;have eh:=decide_eq_true c6;clear c6;by_cases c7:fN<(ab.length:Int)
     ·rw[if_pos c7]at H;have jN:=decide_eq_true c7;clear c7;by_cases c8:((ai ab fN).f0)=a1
      ·rw[if_pos c8]at H;have nL:(((ai ab fN).f0) == a1)=true:=beq_iff_eq.mpr c8;have yI:(((ai ab fN).f0) != a1)=false:=bne_eq_false_iff_eq.mpr c8;clear c8;obtain rfl:=Option.some.inj H;have zI:0≤(fN:Int):=mD;have Ag:fN<(ab.length:Int):=mD;obtain⟨aeo,aba,ae2,OI,F9,Ga,Gb,Fx,Fk⟩:=hY ca.1 fN zI Ag;cases OI
       replace F9:=mX HB.1 F9;replace Ga:=mX HB.1 Ga;replace Gb:=mX HB.1 Gb;have acd:=J Fk;have abK:=J Fx;clear Fk Fx;replace zI:=eq_true zI;replace Ag:=eq_true Ag;go_wp2_with (first|((with_reducible refine aH (N:=6) rfl ?_);refine aT 6 #[.int .i64 0,.slice none 0 0,.int .i64 0] 63 ?_;intro agR hg w9 hbox hb;have Mf:=J (hbox);have abt:=mG hg (aI HB.1 sX.1);have My:=mG hg (aI HB.1 sX.1);replace HB:=J (ar (aI HB.1 sX.1) hb);have IM:=bI hg ql.1;have Nl:=bH hg ql.1;replace ql:=mB ql hb;clear hb hbox hg;have Cn:=Nl.1;have Co:=IM.1;obtain⟨yU,JU,WK,za,Ka,Xc⟩:=ib Mf.1));go_ret;exact⟨bN,(aV HB.1 sX.1 My.1)⟩
      ·rw[if_neg c8]at H;have nL:(((ai ab fN).f0) == a1)=false:=beq_eq_false_iff_ne.mpr c8;have yI:(((ai ab fN).f0) != a1)=true:=bne_iff_ne.mpr c8;have H':=J H;clear H;have zI:0≤(fN:Int):=mD;have Ag:fN<(ab.length:Int):=mD;obtain⟨aeo,aba,ae2,OI,F9,Ga,Gb,Fx,Fk⟩:=hY ca.1 fN zI Ag;cases OI
       replace F9:=mX HB.1 F9;replace Ga:=mX HB.1 Ga;replace Gb:=mX HB.1 Gb;have acd:=J Fk;have abK:=J Fx;clear Fk Fx;replace zI:=eq_true zI;replace Ag:=eq_true Ag;go_wp2_with (first|((with_reducible refine aH (N:=6) rfl ?_);refine aT 6 #[.int .i64 0,.slice none 0 0,.int .i64 0] 63 ?_;intro agR hg dK hbox hb;have Mf:=J (hbox);have abt:=mG hg (aI HB.1 sX.1);have My:=mG hg (aI HB.1 sX.1);replace HB:=J (ar (aI HB.1 sX.1) hb);have IM:=bI hg ql.1;have Nl:=bH hg ql.1;replace ql:=mB ql hb;clear hb hbox hg;have Ku:=Nl.1;have Ky:=IM.1;obtain⟨yV,yW,JX,zb,zc,Kf⟩:=ib Mf.1));go_roundg k1
       case measure=>have:=aQ.1;omega
       case rel=>exact⟨(wrap64 (fN+1)),mE,H',⟨by have:=aQ.1;omega⟩,⟨dD IM.1 ql.1⟩,⟨(aV HB.1 sX.1 My.1)⟩⟩
     ·rw[if_neg c7]at H;exact absurd H (by simp)
    ·rw[if_neg c6]at H;exact absurd H (by simp)
   ·rw[if_neg c5]at H;have eS:=decide_eq_false c5;clear c5;obtain rfl:=Option.some.inj H;go_wp2;go_ret;exact⟨bN,(aI HB.1 sX.1)⟩
def eX.U:Nat→ByteArray→List (aa)→Int→Int→Option (Int)
 |0,_,_,_,_=>none
 |k+1,x1,x8,x9,fl=>if fl<x9 then (if 0≤fl then (if fl<(x8.length:Int) then (if ((aG x8 fl).f0).toList=x1.toList then (some ((aG x8 fl).f1)) else (eX.U k x1 x8 x9 (wrap64 (fl+1)))) else (none)) else (none)) else (some 0)
def eX.f (k:Nat) (ab:List (al)) (af:List (aa)) (aj:List (aa)) (ak:Int) (a1:ByteArray):Option (Int):=eX.U k a1 af (af.length:Int) 0
set_option maxHeartbeats 8000000 in
set_option maxRecDepth 100000 in
theorem eX.calls (k:Nat) (aE:Option Addr) (av:Nat) (ab:List (al)) (aq:Option Addr) (ao:Nat) (af:List (aa)) (aC:Option Addr) (aD:Nat) (aj:List (aa)) (ak:Int) (a1:ByteArray) (r:Int) (w:World) (cI:Kd.C bc w aE ab.length ab) (cG:ab.length≤av) (cr:Kd.C an w aq af.length af) (cq:af.length≤ao) (cJ:Kd.C an w aC aj.length aj) (cH:aj.length≤aD) (h:eX.f k ab af aj ak a1=some r) :
 Calls Tryz.prog 28 #[.agg #[.slice aE ab.length av,.slice aq af.length ao,.slice aC aj.length aD,.int .i64 ak],.string a1] w fun e w'=>e = .returned (.int .i64 r)∧Below w.heap.size w w':=by
 have kZ:=Tryz.underlying27;have zl:=Tryz.underlying89;have ca:=J cI;have cA:=J cG;clear cI cG;have bW:=J cr;have cd:=J cq;clear cr cq;have cD:=J cJ;have cL:=J cH;clear cJ cH;have HB:=J (Below.refl w.heap.size w);have H:(eX.U k a1 af (af.length:Int) 0)=some r:=h;clear h;have H':=J H;clear H;go_enter Tryz.func28,Tryz.ntmps28;go_wp2_with (first|((with_reducible refine aH (N:=2) rfl ?_);refine aT 2 #[.slice aE ab.length av,.slice aq af.length ao,.slice aC aj.length aD,.int .i64 ak] 27 ?_;intro agS hg w3 hbox hb;have qm:=J (hbox);have aoO:=mG hg (mH HB.1);have sY:=mG hg (mH HB.1);replace HB:=J (ar (mH HB.1) hb);clear hb hbox hg;obtain⟨P0,P1,P2,P3,Qs,Qt,Qu,Qv⟩:=bk qm.1));go_loopg [10] k (fun kq v10 w'=>∃(fN:Int),v10 = .int .i64 fN∧Aside0 (eX.U kq a1 af (af.length:Int) fN=some r)∧Aside0 (kq≤k)∧Aside0 (w'.heap[agS]? = some (.cells #[(.slice aE ab.length av),(.slice aq af.length ao),(.slice aC aj.length aD),.int .i64 ak] 27 (0,0)))∧Aside0 (Below w.heap.size w w'))
 case atStart=>exact⟨(0),mE,H',⟨Nat.le_refl _⟩,⟨mK qm.1⟩,⟨(aI HB.1 sY.1)⟩⟩
 case round=>
  clear H'
  try clear P0
  try clear P1
  try clear P2
  try clear P3
  try clear Qs
  try clear Qt
  try clear Qu
  try clear Qv
  obtain⟨fN,rfl,HA,aQ,qm,HB⟩:=hrel;cases gk with
  |zero=>exact absurd HA.1 (by simp[eX.U])
  |succ k1=>
   have H:=HA.1;clear HA;simp only[eX.U]at H;by_cases c5:fN<(af.length:Int)
   ·rw[if_pos c5]at H;have eS:=decide_eq_true c5;clear c5;by_cases c6:0≤fN
    ·rw[if_pos c6]at H;have eh:=decide_eq_true c6;clear c6;by_cases c7:fN<(af.length:Int)
     ·rw[if_pos c7]at H;have jN:=decide_eq_true c7;clear c7;by_cases c8:((aG af fN).f0).toList=a1.toList
      ·rw[if_pos c8]at H;have nL:(((aG af fN).f0).toList == a1.toList)=true:=beq_iff_eq.mpr c8;have yI:(((aG af fN).f0).toList != a1.toList)=false:=bne_eq_false_iff_eq.mpr c8;clear c8;obtain rfl:=Option.some.inj H;have zJ:0≤(fN:Int):=mD;have Ah:fN<(af.length:Int):=mD;obtain⟨aep,OJ,Ge,Gf⟩:=gi bW.1 fN zJ Ah;cases OJ
       replace Ge:=mX HB.1 Ge;replace Gf:=mX HB.1 Gf;replace zJ:=eq_true zJ;replace Ah:=eq_true Ah;go_wp2_with (first|((with_reducible refine aH (N:=6) rfl ?_);refine aT 6 #[.string (⟨#[]⟩:ByteArray),.int .i64 0] 89 ?_;intro agT hg w9 hbox hb;have Mg:=J (hbox);have abu:=mG hg (aI HB.1 sY.1);have MA:=mG hg (aI HB.1 sY.1);replace HB:=J (ar (aI HB.1 sY.1) hb);have IN:=bI hg qm.1;have Nn:=bH hg qm.1;replace qm:=mB qm hb;clear hb hbox hg;have Cn:=Nn.1;have Co:=IN.1;obtain⟨yU,JU,za,Ka⟩:=jX Mg.1));go_ret;exact⟨bN,(aV HB.1 sY.1 MA.1)⟩
      ·rw[if_neg c8]at H;have nL:(((aG af fN).f0).toList == a1.toList)=false:=beq_eq_false_iff_ne.mpr c8;have yI:(((aG af fN).f0).toList != a1.toList)=true:=bne_iff_ne.mpr c8;have H':=J H;clear H;have zJ:0≤(fN:Int):=mD;have Ah:fN<(af.length:Int):=mD;obtain⟨aep,OJ,Ge,Gf⟩:=gi bW.1 fN zJ Ah;cases OJ
       replace Ge:=mX HB.1 Ge;replace Gf:=mX HB.1 Gf;replace zJ:=eq_true zJ;replace Ah:=eq_true Ah;go_wp2_with (first|((with_reducible refine aH (N:=6) rfl ?_);refine aT 6 #[.string (⟨#[]⟩:ByteArray),.int .i64 0] 89 ?_;intro agT hg dK hbox hb;have Mg:=J (hbox);have abu:=mG hg (aI HB.1 sY.1);have MA:=mG hg (aI HB.1 sY.1);replace HB:=J (ar (aI HB.1 sY.1) hb);have IN:=bI hg qm.1;have Nn:=bH hg qm.1;replace qm:=mB qm hb;clear hb hbox hg;have Ku:=Nn.1;have Ky:=IN.1;obtain⟨yV,yW,zb,zc⟩:=jX Mg.1));go_roundg k1
       case measure=>have:=aQ.1;omega
       case rel=>exact⟨(wrap64 (fN+1)),mE,H',⟨by have:=aQ.1;omega⟩,⟨dD IN.1 qm.1⟩,⟨(aV HB.1 sY.1 MA.1)⟩⟩
     ·rw[if_neg c7]at H;exact absurd H (by simp)
    ·rw[if_neg c6]at H;exact absurd H (by simp)
   ·rw[if_neg c5]at H;have eS:=decide_eq_false c5;clear c5;obtain rfl:=Option.some.inj H;go_wp2;go_ret;exact⟨bN,(aI HB.1 sY.1)⟩
end Go.Proofs.YtingkpnoiekliaaGreat.MZ
end
