import Derived.Test.YtfhjjfibblcklaaPFnExactReadPolicyy0
import Derived.Test.YtfhjjfibblcklaaPFnExactReadPolicyy16
namespace Go.Proofs.Ytfhjjfibblcklaa.PFnExactReadPolicy
open Go.RowKit Go.Proofs.YtfhjjfibblcklaaW.PrintWords Go.Proofs.YtfhjjfibblcklaaW.PrintLast Go.Proofs.YtfhjjfibblcklaaW.PrintMore Go.Proofs.YtfhjjfibblcklaaW.Z
open Kd
attribute [local go_sem] isS max2_int min2_int max_two min_two max_three min_three max_four min_four
set_option linter.unusedVariables false
set_option linter.unusedSimpArgs false
def laws_eqCondS.l0:Nat→List (S66)→List (S66)→Int→Option (Bool)
  | 0,_,_,_=>none
  | k+1,ab,ac,l=>if l<(ab.length:Int)then(if 0≤l then(if l<(ac.length:Int)then((laws_eqCond.f ((rd_T66 ab l).f0) ((rd_T66 ab l).f1.f0) ((rd_T66 ab l).f1.f1) ((rd_T66 ab l).f2) ((rd_T66 ab l).f3.f0) ((rd_T66 ab l).f3.f1) ((rd_T66 ac l).f0) ((rd_T66 ac l).f1.f0) ((rd_T66 ac l).f1.f1) ((rd_T66 ac l).f2) ((rd_T66 ac l).f3.f0) ((rd_T66 ac l).f3.f1)).bind fun aJ=>(if aJ=true then(laws_eqCondS.l0 k ab ac (wrap64 (l+1)))else(some false)))else(none))else(none))else(some true)
def laws_eqCondS.f (k:Nat) (c:List (S66)) (d:List (S66)):Option (Bool):=if(c.length:Int)=(d.length:Int)then(laws_eqCondS.l0 k c d 0)else(some false)
def laws_eqCondS.T6:Bool×List (List Nat×List Nat):=(true,[([],[]),([],[]),([0,1],[0,1]),([2],[2]),([],[]),([],[]),([4,5],[4,5]),([6],[6]),([3,7],[3,7]),([8],[8])])
def laws_eqCondS.B6:List Nat:=[0,0,3,7,0,0,48,112,255,511]
theorem laws_eqCondS.tab6:rtab .any (opsOf Try.f74 6)=laws_eqCondS.T6:=by kernel_rfl
theorem laws_eqCondS.bits6:waitsOk laws_eqCondS.T6.2 laws_eqCondS.B6=true:=by kernel_rfl
theorem q17x0 {P:Prop} (h:P:=by
 rintro w' ⟨s0,s1,s2,s3,s4,s5,s6,s7,s8,s9,s10,s11⟩
 go_simp
 with_reducible rfl):P:=h
set_option maxHeartbeats 8000000 in
set_option maxRecDepth 100000 in
theorem laws_eqCondS.calls {k:Nat}{aQ:Option Addr}{aR:Nat}{c:List (S66)}{aS:Option Addr}{aK:Nat}{d:List (S66)}{r:Bool}{w:World}(h:laws_eqCondS.f k c d=some r)(aT:Kd.C k66 w aQ c.length c)(aU:c.length≤aR)(aV:Kd.C k66 w aS d.length d)(aW:d.length≤aK) :
 Calls Try.prog 74 #[.slice aQ c.length aR,.slice aS d.length aK] w fun e w'=>e= .returned (.bool r)∧Below w.heap.size w w':=by
 have hu66:=Try.underlying66;have HR0:=aM aT;have HC0:=aM aU;clear aT aU;have HR1:=aM aV;have HC1:=aM aW;clear aV aW;have HB:=rW w;have H:(if(c.length:Int)=(d.length:Int)then(laws_eqCondS.l0 k c d 0)else(some false))=some r:=h;clear h;by_cases s:(c.length:Int)=(d.length:Int)
 ·rw[if_pos s]at H;obtain⟨aX,aY⟩:=eT s
  have aZ:(c.length == d.length)=true:=by first|simpa using s|(simp at s ⊢;omega)
  clear s;have H':=aM H;clear H;go_enter Try.func74,Try.ntmps74;go_wp2
  go_loopg [5] k (fun kq a9 w'=> ∃ (a:Int),a9= .int .i64 a∧Aside0 (laws_eqCondS.l0 kq c d a=some r)∧Aside0 (kq≤k)∧Aside0 (Below w.heap.size w w'))
  case atStart=>exact⟨(0),rS,H',⟨Nat.le_refl _⟩,⟨cB⟩⟩
  case round=>
   clear H';(try clear aK);(try clear s);(try clear aX);(try clear aY);(try clear aZ);obtain⟨a,rfl,HA,HK1,HB⟩:=hrel
   cases gk with
   | zero=>exact absurd HA.out (by simp[laws_eqCondS.l0])
   | succ k1=>
    have H:=HA.out;clear HA;simp only[laws_eqCondS.l0]at H;by_cases q:a<(c.length:Int)
    ·rw[if_pos q]at H;have ba:=decide_eq_true q;clear q;replace H:=gD H;obtain⟨bi,H⟩:=H;replace H:=gD H;obtain⟨bj,H⟩:=H;replace H:=bE H;obtain⟨aJ,a0,H⟩:=H;by_cases t:aJ=true
     ·subst t;replace H:=iT H;have H':=aM H;clear H
      try go_wp2
      replace HB:=dW HB;have ad:0≤(a:Int):=dA;have ae:a<(c.length:Int):=dA;obtain⟨g,aL,A,D,E,G,I,J⟩:=at_T66 HR0.out a ad ae;have ap:=J;have aq:=I;have ar:=G;have au:=E;have av:=D;have aw:=A;cases aL;replace A:=(bc HB A :);replace D:=(bc HB D :);replace E:=(bc HB E :);replace G:=(bc HB G :);replace I:=(bc HB I :);replace J:=(bc HB J :);replace ad:=eq_true ad;replace ae:=eq_true ae;have af:0≤(a:Int):=dA;have ag:a<(d.length:Int):=dA;obtain⟨i,aN,L,M,O,U,W,X⟩:=at_T66 HR1.out a af ag;have ax:=X;have ay:=W;have az:=U;have aA:=O;have aB:=M;have aC:=L;cases aN;replace L:=(bc HB L :);replace M:=(bc HB M :);replace O:=(bc HB O :);replace U:=(bc HB U :);replace W:=(bc HB W :);replace X:=(bc HB X :);replace af:=eq_true af;replace ag:=eq_true ag
      refine sZ 10 (fun w'=>w'.cell? (g.add ((a).toNat*6))=some (.int .i64 ((rd_T66 c a).f0))∧w'.cell? ⟨(g.add ((a).toNat*6)).block,(g.add ((a).toNat*6)).off+1,none⟩=some (.int .i64 ((rd_T66 c a).f1.f0))∧w'.cell? ⟨(g.add ((a).toNat*6)).block,(g.add ((a).toNat*6)).off+2,none⟩=some (.int .i64 ((rd_T66 c a).f1.f1))∧w'.cell? ⟨(g.add ((a).toNat*6)).block,(g.add ((a).toNat*6)).off+3,none⟩=some (.int .i64 ((rd_T66 c a).f2))∧w'.cell? ⟨(g.add ((a).toNat*6)).block,(g.add ((a).toNat*6)).off+4,none⟩=some (.int .i64 ((rd_T66 c a).f3.f0))∧w'.cell? ⟨(g.add ((a).toNat*6)).block,(g.add ((a).toNat*6)).off+5,none⟩=some (.int .i64 ((rd_T66 c a).f3.f1))∧w'.cell? (i.add ((a).toNat*6))=some (.int .i64 ((rd_T66 d a).f0))∧w'.cell? ⟨(i.add ((a).toNat*6)).block,(i.add ((a).toNat*6)).off+1,none⟩=some (.int .i64 ((rd_T66 d a).f1.f0))∧w'.cell? ⟨(i.add ((a).toNat*6)).block,(i.add ((a).toNat*6)).off+2,none⟩=some (.int .i64 ((rd_T66 d a).f1.f1))∧w'.cell? ⟨(i.add ((a).toNat*6)).block,(i.add ((a).toNat*6)).off+3,none⟩=some (.int .i64 ((rd_T66 d a).f2))∧w'.cell? ⟨(i.add ((a).toNat*6)).block,(i.add ((a).toNat*6)).off+4,none⟩=some (.int .i64 ((rd_T66 d a).f3.f0))∧w'.cell? ⟨(i.add ((a).toNat*6)).block,(i.add ((a).toNat*6)).off+5,none⟩=some (.int .i64 ((rd_T66 d a).f3.f1))) laws_eqCondS.tab6 laws_eqCondS.bits6 ⟨((bc HB aw :)),((bc HB av :)),((bc HB au :)),((bc HB ar :)),((bc HB aq :)),((bc HB ap :)),((bc HB aC :)),((bc HB aB :)),((bc HB aA :)),((bc HB az :)),((bc HB ay :)),((bc HB ax :))⟩ fun HT_ HW_ hHeld=>?_
      generalize wr.drew=bb at HB A D E G I J L M O U W X hHeld ⊢;refine pZ 0 17 1 ?_;refine pZ 1 18 3 ?_;refine pZ 2 19 7 ?_;refine pZ 4 21 23 ?_;refine pZ 5 22 55 ?_;refine pZ 6 23 119 ?_;refine tZ 3 20 127 (y:=q17x0) (h:=?_);refine tZ 7 24 255 (y:=q17x0) (h:=?_)
      refine oZ 8 25 511 fun K hK=>?_
      refine eX Try.func89 (laws_eqCond.calls a0.out) ?_
      intro bd hb;replace HB:=sB hb;(try clear hb)
      refine hK.out _ _ ⟨((bc HB aw :)),((bc HB av :)),((bc HB au :)),((bc HB ar :)),((bc HB aq :)),((bc HB ap :)),((bc HB aC :)),((bc HB aB :)),((bc HB aA :)),((bc HB az :)),((bc HB ay :)),((bc HB ax :))⟩ (fun hHeld=>?_)
      clear hK K;refine normZ (some 25) ?_
      refine pZ 9 26 1023 ?_
      refine done_ (done_of HT_.out (by kernel_rfl)) ?_
      try go_wp2
      go_roundg k1
      case measure=>exact oK
      case rel=>exact⟨(wrap64 (a+1)),rS,H',⟨oK⟩,⟨cB⟩⟩
     ·replace t:=Bool.eq_false_iff.mpr t;subst t;replace H:=iF H;obtain rfl:=Option.some.inj H
      try go_wp2
      replace HB:=dW HB;have ad:0≤(a:Int):=dA;have ae:a<(c.length:Int):=dA;obtain⟨g,aL,A,D,E,G,I,J⟩:=at_T66 HR0.out a ad ae;have ap:=J;have aq:=I;have ar:=G;have au:=E;have av:=D;have aw:=A;cases aL;replace A:=(bc HB A :);replace D:=(bc HB D :);replace E:=(bc HB E :);replace G:=(bc HB G :);replace I:=(bc HB I :);replace J:=(bc HB J :);replace ad:=eq_true ad;replace ae:=eq_true ae;have af:0≤(a:Int):=dA;have ag:a<(d.length:Int):=dA;obtain⟨i,aN,L,M,O,U,W,X⟩:=at_T66 HR1.out a af ag;have ax:=X;have ay:=W;have az:=U;have aA:=O;have aB:=M;have aC:=L;cases aN;replace L:=(bc HB L :);replace M:=(bc HB M :);replace O:=(bc HB O :);replace U:=(bc HB U :);replace W:=(bc HB W :);replace X:=(bc HB X :);replace af:=eq_true af;replace ag:=eq_true ag
      refine sZ 10 (fun w'=>w'.cell? (g.add ((a).toNat*6))=some (.int .i64 ((rd_T66 c a).f0))∧w'.cell? ⟨(g.add ((a).toNat*6)).block,(g.add ((a).toNat*6)).off+1,none⟩=some (.int .i64 ((rd_T66 c a).f1.f0))∧w'.cell? ⟨(g.add ((a).toNat*6)).block,(g.add ((a).toNat*6)).off+2,none⟩=some (.int .i64 ((rd_T66 c a).f1.f1))∧w'.cell? ⟨(g.add ((a).toNat*6)).block,(g.add ((a).toNat*6)).off+3,none⟩=some (.int .i64 ((rd_T66 c a).f2))∧w'.cell? ⟨(g.add ((a).toNat*6)).block,(g.add ((a).toNat*6)).off+4,none⟩=some (.int .i64 ((rd_T66 c a).f3.f0))∧w'.cell? ⟨(g.add ((a).toNat*6)).block,(g.add ((a).toNat*6)).off+5,none⟩=some (.int .i64 ((rd_T66 c a).f3.f1))∧w'.cell? (i.add ((a).toNat*6))=some (.int .i64 ((rd_T66 d a).f0))∧w'.cell? ⟨(i.add ((a).toNat*6)).block,(i.add ((a).toNat*6)).off+1,none⟩=some (.int .i64 ((rd_T66 d a).f1.f0))∧w'.cell? ⟨(i.add ((a).toNat*6)).block,(i.add ((a).toNat*6)).off+2,none⟩=some (.int .i64 ((rd_T66 d a).f1.f1))∧w'.cell? ⟨(i.add ((a).toNat*6)).block,(i.add ((a).toNat*6)).off+3,none⟩=some (.int .i64 ((rd_T66 d a).f2))∧w'.cell? ⟨(i.add ((a).toNat*6)).block,(i.add ((a).toNat*6)).off+4,none⟩=some (.int .i64 ((rd_T66 d a).f3.f0))∧w'.cell? ⟨(i.add ((a).toNat*6)).block,(i.add ((a).toNat*6)).off+5,none⟩=some (.int .i64 ((rd_T66 d a).f3.f1))) laws_eqCondS.tab6 laws_eqCondS.bits6 ⟨((bc HB aw :)),((bc HB av :)),((bc HB au :)),((bc HB ar :)),((bc HB aq :)),((bc HB ap :)),((bc HB aC :)),((bc HB aB :)),((bc HB aA :)),((bc HB az :)),((bc HB ay :)),((bc HB ax :))⟩ fun HT_ HW_ hHeld=>?_
      generalize wr.drew=bk at HB A D E G I J L M O U W X hHeld ⊢;refine pZ 0 17 1 ?_;refine pZ 1 18 3 ?_;refine pZ 2 19 7 ?_;refine pZ 4 21 23 ?_;refine pZ 5 22 55 ?_;refine pZ 6 23 119 ?_;refine tZ 3 20 127 (y:=q17x0) (h:=?_);refine tZ 7 24 255 (y:=q17x0) (h:=?_)
      refine oZ 8 25 511 fun K hK=>?_
      refine eX Try.func89 (laws_eqCond.calls a0.out) ?_
      intro bl hb;replace HB:=sB hb;(try clear hb)
      refine hK.out _ _ ⟨((bc HB aw :)),((bc HB av :)),((bc HB au :)),((bc HB ar :)),((bc HB aq :)),((bc HB ap :)),((bc HB aC :)),((bc HB aB :)),((bc HB aA :)),((bc HB az :)),((bc HB ay :)),((bc HB ax :))⟩ (fun hHeld=>?_)
      clear hK K;refine normZ (some 25) ?_
      refine pZ 9 26 1023 ?_
      refine done_ (done_of HT_.out (by kernel_rfl)) ?_
      try go_wp2
      go_ret;exact⟨rE,cB⟩
    ·rw[if_neg q]at H;have ba:=decide_eq_false q;clear q;obtain rfl:=Option.some.inj H;go_wp2;go_ret;exact⟨rE,cB⟩
 ·rw[if_neg s]at H;obtain⟨aX,aY⟩:=eF s
  have aZ:(c.length == d.length)=false:=by first|simpa using s|(simp at s ⊢;omega)
  obtain rfl:=Option.some.inj H;go_enter Try.func74,Try.ntmps74;go_wp2;go_ret;exact⟨rE,cB⟩
def laws_eqRule.f (k:Nat) (m:List Int) (n:List (S66)) (u:Int) (v:Int) (o:List Int) (p:List (S66)) (x:Int) (z:Int):Option (Bool):=(laws_eqIntS.f k m o).bind fun aO=>(if aO=true then((laws_eqCondS.f k n p).bind fun aP=>(if aP=true then(if u=x then(if v=z then(some true)else(some false))else(some false))else(some false)))else(some false))
set_option maxHeartbeats 8000000 in
set_option maxRecDepth 100000 in
theorem laws_eqRule.calls {k:Nat}{ah:Option Addr}{ai:Nat}{m:List Int}{aj:Option Addr}{ak:Nat}{n:List (S66)}{u:Int}{v:Int}{al:Option Addr}{am:Nat}{o:List Int}{an:Option Addr}{ao:Nat}{p:List (S66)}{x:Int}{z:Int}{r:Bool}{w:World}(h:laws_eqRule.f k m n u v o p x z=some r)(a1:Kd.C (Kd.int .i64) w ah m.length m)(a2:m.length≤ai)(a3:Kd.C k66 w aj n.length n)(a4:n.length≤ak)(a5:Kd.C (Kd.int .i64) w al o.length o)(a6:o.length≤am)(a7:Kd.C k66 w an p.length p)(a8:p.length≤ao) :
 Calls Try.prog 49 #[.agg #[.slice ah m.length ai,.slice aj n.length ak,.int .i64 u,.int .i64 v],.agg #[.slice al o.length am,.slice an p.length ao,.int .i64 x,.int .i64 z]] w fun e w'=>e= .returned (.bool r)∧Below w.heap.size w w':=by
 have hu43:=Try.underlying43;have HR0_0:=aM a1;have HC0_0:=aM a2;clear a1 a2;have HR0_1:=aM a3;have HC0_1:=aM a4;clear a3 a4;have HR1_0:=aM a5;have HC1_0:=aM a6;clear a5 a6;have HR1_1:=aM a7;have HC1_1:=aM a8;clear a7 a8;have HB:=rW w
 unfold laws_eqRule.f at h;have H:=h
 clear h;replace H:=bE H;obtain⟨aO,aD,H⟩:=H;by_cases q:aO=true
 ·subst q;replace H:=iT H;replace H:=bE H;obtain⟨aP,aF,H⟩:=H;by_cases aG:aP=true
  ·subst aG;replace H:=iT H;by_cases aE:u=x
   ·rw[if_pos aE]at H;obtain⟨be,bf⟩:=eT aE;clear aE;by_cases t:v=z
    ·rw[if_pos t]at H;obtain⟨bg,bh⟩:=eT t;clear t;obtain rfl:=Option.some.inj H;go_enter Try.func49,Try.ntmps49
     go_wp2_with (first|((with_reducible refine gN 2 ?_);refine boxZ 2 #[.slice ah m.length ai,.slice aj n.length ak,.int .i64 u,.int .i64 v] 43 ?_;intro aH hg bb hbox hb;have b:=aM hbox;have GW644:=gS hg;have GE644:=gS hg;replace HB:=sB hb;clear hb hbox hg)|((with_reducible refine gN 3 ?_);refine boxZ 3 #[.slice al o.length am,.slice an p.length ao,.int .i64 x,.int .i64 z] 43 ?_;intro aI hg bd hbox hb;have j:=aM hbox;have GW645:=gS hg;have GE645:=gS hg;replace HB:=sB hb;have Y:=nL hg b;have aa:=nG hg b;replace b:=kB b hb;clear hb hbox hg;have hnb11:=Y.out;have hnc11:=aa.out;obtain⟨bm,bn,bo,bp,bq,br,bs,bu⟩:=cz4 b;obtain⟨bv,bw,bx,bz,bA,bB,bC,bD⟩:=cz4 j)|((with_reducible refine gF 73 ?_);refine gX (some 9) Try.func73 (laws_eqIntS.calls aD.out (cH HR0_0) HC0_0.out (cH HR1_0) HC1_0.out) ?_;rintro w' ⟨nd,rfl⟩)|((with_reducible refine gF 74 ?_);refine gX (some 15) Try.func74 (laws_eqCondS.calls aF.out (cC (C_below HR0_1.out cB)) HC0_1.out (cC (C_below HR1_1.out cB)) HC1_1.out) ?_;intro bF hb;replace b:=kB b hb;replace j:=kB j hb;replace HB:=sB hb;(try clear hb);obtain⟨bG,bH,bI,bJ,bL,bM,bN,bO⟩:=cz4 b;obtain⟨bP,bQ,bR,bS,bT,bU,bV,bW⟩:=cz4 j))
     go_ret;exact⟨rE,cB⟩
    ·rw[if_neg t]at H;obtain⟨bg,bh⟩:=eF t;obtain rfl:=Option.some.inj H;go_enter Try.func49,Try.ntmps49
     go_wp2_with (first|((with_reducible refine gN 2 ?_);refine boxZ 2 #[.slice ah m.length ai,.slice aj n.length ak,.int .i64 u,.int .i64 v] 43 ?_;intro aH hg bX hbox hb;have b:=aM hbox;have GW644:=gS hg;have GE644:=gS hg;replace HB:=sB hb;clear hb hbox hg)|((with_reducible refine gN 3 ?_);refine boxZ 3 #[.slice al o.length am,.slice an p.length ao,.int .i64 x,.int .i64 z] 43 ?_;intro aI hg bY hbox hb;have j:=aM hbox;have GW645:=gS hg;have GE645:=gS hg;replace HB:=sB hb;have Y:=nL hg b;have aa:=nG hg b;replace b:=kB b hb;clear hb hbox hg;have hnb19:=Y.out;have hnc19:=aa.out;obtain⟨bZ,b0,b1,b5,b8,b9,ca,cb⟩:=cz4 b;obtain⟨cc,cd,ce,cf,cg,ch,ci,cj⟩:=cz4 j)|((with_reducible refine gF 73 ?_);refine gX (some 9) Try.func73 (laws_eqIntS.calls aD.out (cH HR0_0) HC0_0.out (cH HR1_0) HC1_0.out) ?_;rintro w' ⟨nd,rfl⟩)|((with_reducible refine gF 74 ?_);refine gX (some 15) Try.func74 (laws_eqCondS.calls aF.out (cC (C_below HR0_1.out cB)) HC0_1.out (cC (C_below HR1_1.out cB)) HC1_1.out) ?_;intro ck hb;replace b:=kB b hb;replace j:=kB j hb;replace HB:=sB hb;(try clear hb);obtain⟨cl,cm,cn,co,cp,cq,cr,cs⟩:=cz4 b;obtain⟨ct,cu,cv,cw,cx,cy,cz,cA⟩:=cz4 j))
     go_ret;exact⟨rE,cB⟩
   ·rw[if_neg aE]at H;obtain⟨be,bf⟩:=eF aE;obtain rfl:=Option.some.inj H;go_enter Try.func49,Try.ntmps49
    go_wp2_with (first|((with_reducible refine gN 2 ?_);refine boxZ 2 #[.slice ah m.length ai,.slice aj n.length ak,.int .i64 u,.int .i64 v] 43 ?_;intro aH hg cD hbox hb;have b:=aM hbox;have GW644:=gS hg;have GE644:=gS hg;replace HB:=sB hb;clear hb hbox hg)|((with_reducible refine gN 3 ?_);refine boxZ 3 #[.slice al o.length am,.slice an p.length ao,.int .i64 x,.int .i64 z] 43 ?_;intro aI hg cE hbox hb;have j:=aM hbox;have GW645:=gS hg;have GE645:=gS hg;replace HB:=sB hb;have Y:=nL hg b;have aa:=nG hg b;replace b:=kB b hb;clear hb hbox hg;have hnb27:=Y.out;have hnc27:=aa.out;obtain⟨cF,cG,cI,cJ,cL,cM,cN,cO⟩:=cz4 b;obtain⟨cP,cQ,cR,cS,cT,cU,cV,cW⟩:=cz4 j)|((with_reducible refine gF 73 ?_);refine gX (some 9) Try.func73 (laws_eqIntS.calls aD.out (cH HR0_0) HC0_0.out (cH HR1_0) HC1_0.out) ?_;rintro w' ⟨nd,rfl⟩)|((with_reducible refine gF 74 ?_);refine gX (some 15) Try.func74 (laws_eqCondS.calls aF.out (cC (C_below HR0_1.out cB)) HC0_1.out (cC (C_below HR1_1.out cB)) HC1_1.out) ?_;intro cX hb;replace b:=kB b hb;replace j:=kB j hb;replace HB:=sB hb;(try clear hb);obtain⟨cY,cZ,c0,c1,c3,c4,c6,c7⟩:=cz4 b;obtain⟨c8,da,db,dc,dd,de,df,dg⟩:=cz4 j))
    go_ret;exact⟨rE,cB⟩
  ·replace aG:=Bool.eq_false_iff.mpr aG;subst aG;replace H:=iF H;obtain rfl:=Option.some.inj H;go_enter Try.func49,Try.ntmps49
   go_wp2_with (first|((with_reducible refine gN 2 ?_);refine boxZ 2 #[.slice ah m.length ai,.slice aj n.length ak,.int .i64 u,.int .i64 v] 43 ?_;intro aH hg dh hbox hb;have b:=aM hbox;have GW644:=gS hg;have GE644:=gS hg;replace HB:=sB hb;clear hb hbox hg)|((with_reducible refine gN 3 ?_);refine boxZ 3 #[.slice al o.length am,.slice an p.length ao,.int .i64 x,.int .i64 z] 43 ?_;intro aI hg di hbox hb;have j:=aM hbox;have GW645:=gS hg;have GE645:=gS hg;replace HB:=sB hb;have Y:=nL hg b;have aa:=nG hg b;replace b:=kB b hb;clear hb hbox hg;have hnb35:=Y.out;have hnc35:=aa.out;obtain⟨dj,dk,dl,dm,dn,dp,dq,dr⟩:=cz4 b;obtain⟨ds,dt,du,dv,dw,dx,dy,dz⟩:=cz4 j)|((with_reducible refine gF 73 ?_);refine gX (some 9) Try.func73 (laws_eqIntS.calls aD.out (cH HR0_0) HC0_0.out (cH HR1_0) HC1_0.out) ?_;rintro w' ⟨nd,rfl⟩)|((with_reducible refine gF 74 ?_);refine gX (some 15) Try.func74 (laws_eqCondS.calls aF.out (cC (C_below HR0_1.out cB)) HC0_1.out (cC (C_below HR1_1.out cB)) HC1_1.out) ?_;intro dC hb;replace b:=kB b hb;replace j:=kB j hb;replace HB:=sB hb;(try clear hb)))
   go_ret;exact⟨rE,cB⟩
 ·replace q:=Bool.eq_false_iff.mpr q;subst q;replace H:=iF H;obtain rfl:=Option.some.inj H;go_enter Try.func49,Try.ntmps49
  go_wp2_with (first|((with_reducible refine gN 2 ?_);refine boxZ 2 #[.slice ah m.length ai,.slice aj n.length ak,.int .i64 u,.int .i64 v] 43 ?_;intro aH hg dD hbox hb;have b:=aM hbox;have GW644:=gS hg;have GE644:=gS hg;replace HB:=sB hb;clear hb hbox hg)|((with_reducible refine gN 3 ?_);refine boxZ 3 #[.slice al o.length am,.slice an p.length ao,.int .i64 x,.int .i64 z] 43 ?_;intro aI hg dE hbox hb;have j:=aM hbox;have GW645:=gS hg;have GE645:=gS hg;replace HB:=sB hb;have Y:=nL hg b;have aa:=nG hg b;replace b:=kB b hb;clear hb hbox hg;have hnb41:=Y.out;have hnc41:=aa.out;obtain⟨dF,dG,dH,dI,dJ,dK,dL,dM⟩:=cz4 b;obtain⟨dN,dO,dP,dQ,dS,dT,dU,dV⟩:=cz4 j)|((with_reducible refine gF 73 ?_);refine gX (some 9) Try.func73 (laws_eqIntS.calls aD.out (cH HR0_0) HC0_0.out (cH HR1_0) HC1_0.out) ?_;rintro w' ⟨nd,rfl⟩))
  go_ret;exact⟨rE,cB⟩
end Go.Proofs.Ytfhjjfibblcklaa.PFnExactReadPolicy
