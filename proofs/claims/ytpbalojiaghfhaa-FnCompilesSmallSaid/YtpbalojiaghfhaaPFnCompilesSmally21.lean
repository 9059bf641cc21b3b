import Derived.Test.YtpbalojiaghfhaaPFnCompilesSmally0
import Derived.Test.YtpbalojiaghfhaaPFnCompilesSmally18
import Derived.Test.YtpbalojiaghfhaaPFnCompilesSmally20
namespace Go.Proofs.Ytpbalojiaghfhaa.PFnCompilesSmall
open Go.RowKit Go.Proofs.YtpbalojiaghfhaaW.PrintWords Go.Proofs.YtpbalojiaghfhaaW.PrintLast Go.Proofs.YtpbalojiaghfhaaW.PrintMore Go.Proofs.YtpbalojiaghfhaaW.Z
open Kd
attribute [local go_sem] isS max2_int min2_int max_two min_two max_three min_three max_four min_four
set_option linter.unusedVariables false
set_option linter.unusedSimpArgs false
theorem qh21x0 {P:Prop} (h:P:=by exact⟨(blk_cell c.out 0).trans rfl,(blk_cell c.out 1).trans rfl,(blk_cell c.out 2).trans rfl,(blk_cell c.out 3).trans rfl,(blk_cell i.out 0).trans rfl,(blk_cell i.out 1).trans rfl,(blk_cell i.out 2).trans rfl,((bc HB ap :)),((bc HB aq :)),((bc HB ar :)),((bc HB au :)),((bc HB av :)),((bc HB aw :))⟩):P:=h
mutual
def spec_RuleHolds.j0:Nat→Bool→List Int→List (S114)→Int→Int→Int→Int→List (S93)→Option (Bool)
  | 0,_,_,_,_,_,_,_,_=>none
  | k+1,a1,ai,p,aj,ak,ad,ae,af=>if a1=true then(some false)else(spec_RuleHolds.l0 k 0 ai p aj ak ad ae af)
def spec_RuleHolds.l0:Nat→Int→List Int→List (S114)→Int→Int→Int→Int→List (S93)→Option (Bool)
  | 0,_,_,_,_,_,_,_,_=>none
  | k+1,s,ai,p,aj,ak,ad,ae,af=>if s<(p.length:Int)then(if 0≤s then((spec_CondHolds.f k ((rd_T114 p s).f0) ((rd_T114 p s).f1.f0) ((rd_T114 p s).f1.f1) ((rd_T114 p s).f2) ((rd_T114 p s).f3.f0) ((rd_T114 p s).f3.f1) ad ae af).bind fun al=>(if al=true then(spec_RuleHolds.l0 k (wrap64 (s+1)) ai p aj ak ad ae af)else(some false)))else(none))else(some true)
end
def spec_RuleHolds.f (k:Nat) (g:List Int) (b:List (S114)) (m:Int) (n:Int) (o:Int) (l:Int) (j:List (S93)):Option (Bool):=if(g.length:Int)>0 then((spec_l09In.f k g l).bind fun am=>(spec_RuleHolds.j0 k (!am) g b m n o l j))else(spec_RuleHolds.j0 k false g b m n o l j)
def spec_RuleHolds.T6:Bool×List (List Nat×List Nat):=(true,[([],[]),([0],[0]),([],[]),([1,2],[1,2]),([3],[3]),([],[]),([4,5],[4,5]),([6],[6])])
def spec_RuleHolds.B6:List Nat:=[0,1,0,7,15,0,63,127]
theorem spec_RuleHolds.tab6:rtab .any (opsOf Try.f55 6)=spec_RuleHolds.T6:=by kernel_rfl
theorem spec_RuleHolds.bits6:waitsOk spec_RuleHolds.T6.2 spec_RuleHolds.B6=true:=by kernel_rfl
theorem q21x0 {P:Prop} (h:P:=by
 rintro w' ⟨s0,s1,s2,s3,s4,s5,s6,s7,s8,s9,s10,s11,s12⟩
 go_simp
 with_reducible rfl):P:=h
set_option maxHeartbeats 8000000 in
set_option maxRecDepth 100000 in
theorem spec_RuleHolds.calls {k:Nat}{G:Option Addr}{I:Nat}{g:List Int}{Y:Option Addr}{J:Nat}{b:List (S114)}{m:Int}{n:Int}{o:Int}{l:Int}{L:Option Addr}{M:Nat}{j:List (S93)}{r:Bool}{w:World}(h:spec_RuleHolds.f k g b m n o l j=some r)(ax:Kd.C (Kd.int .i64) w G g.length g)(ay:g.length≤I)(az:Kd.C k114 w Y b.length b)(aA:b.length≤J)(aB:Kd.C k93 w L j.length j)(aC:j.length≤M) :
 Calls Try.prog 55 #[.agg #[.slice G g.length I,.slice Y b.length J,.int .i64 m,.int .i64 n],.agg #[.int .i64 o,.int .i64 l,.slice L j.length M]] w fun e w'=>e= .returned (.bool r)∧Below w.heap.size w w':=by
 have hu81:=Try.underlying81;have hu28:=Try.underlying28;have hu114:=Try.underlying114;have HR0_0:=aM ax;have HC0_0:=aM ay;clear ax ay;have HR0_1:=aM az;have HC0_1:=aM aA;clear az aA;have HR1_2:=aM aB;have HC1_2:=aM aC;clear aB aC;have HB:=rW w
 unfold spec_RuleHolds.f at h;have H:=h
 clear h;have HC3:=aM H;clear H;go_enter Try.func55,Try.ntmps55
 go_upto_region 1 with(first|((with_reducible refine gN 2 ?_);refine boxZ 2 #[.slice G g.length I,.slice Y b.length J,.int .i64 m,.int .i64 n] 81 ?_;intro q hg a6 hbox hb;have c:=aM hbox;have GW904:=gS hg;have GE904:=gS hg;replace HB:=sB hb;clear hb hbox hg)|((with_reducible refine gN 3 ?_);refine boxZ 3 #[.int .i64 o,.int .i64 l,.slice L j.length M] 28 ?_;intro D hg a7 hbox hb;have i:=aM hbox;have GW905:=gS hg;have GE905:=gS hg;replace HB:=sB hb;have aa:=nL hg c;have ab:=nG hg c;replace c:=kB c hb;clear hb hbox hg))
 (try simp only[Act.put,List.setIfInBounds_toArray,List.set_cons_zero,List.set_cons_succ])
 go_cut [17] (fun a2 wc=> ∃ (kq:Nat) (ag:Bool),a2= .bool ag∧Aside0 (spec_RuleHolds.j0 kq ag g b m n o l j=some r)∧Aside0 (kq≤k)∧Aside0 (wc.heap[q]?=some (.cells #[(.slice G g.length I),(.slice Y b.length J),.int .i64 m,.int .i64 n] 81 (0,0)))∧Aside0 (wc.heap[D]?=some (.cells #[.int .i64 o,.int .i64 l,(.slice L j.length M)] 28 (0,0)))∧Aside0 (Below w.heap.size w wc))
 case first=>
  have H:=HC3.out;clear HC3;by_cases E:(g.length:Int)>0
  ·rw[if_pos E]at H;have O:decide (0<(g.length:Int))=true:=decide_eq_true E
   have an:decide (0<g.length)=true:=decide_eq_true (by omega)
   clear E
   (first|rw[O]|(simp only[i64_w,i32_w];rw[O])|skip)
   replace H:=bE H;obtain⟨am,a3,H⟩:=H;have H':=aM H;clear H;have hnb8:=aa.out;have hnc8:=ab.out;obtain⟨aD,aE,aF,aG,aH,aI,aJ,aK⟩:=cz4 c;obtain⟨aL,aN,aO,aP,aQ,aR⟩:=cz3 i
   go_wp2_with (first|(go_at_call 92;(with_reducible refine(spec_l09In.calls a3.out ?side1 ?side2).mono ?_);(case side1=>exact cH HR0_0);(case side2=>exact HC0_0.out);rintro e w' ⟨rfl,⟨nd,rfl⟩⟩))
   go_meet
   case rel=>exact⟨_,(!am),rS,H',⟨oL⟩,⟨mK c⟩,⟨mK i⟩,⟨cB⟩⟩
  ·rw[if_neg E]at H;have O:decide (0<(g.length:Int))=false:=decide_eq_false E
   have an:decide (0<g.length)=false:=decide_eq_false (by omega)
   clear E
   (first|rw[O]|(simp only[i64_w,i32_w];rw[O])|skip)
   have H':=aM H;clear H;have hnb11:=aa.out;have hnc11:=ab.out;obtain⟨aS,aT,aU,aV,aW,aX,aY,aZ⟩:=cz4 c;go_wp2;go_meet
   case rel=>exact⟨_,(false),rS,H',⟨oL⟩,⟨mK c⟩,⟨mK i⟩,⟨cB⟩⟩
 case rest=>
  clear HC3;(try clear E);(try clear O);(try clear an);(try clear aL aN aO);(try clear aS aT aU aV);(try clear aD aE aF aG);(try clear aP aQ aR);(try clear aW aX aY aZ);(try clear aH aI aJ aK);obtain⟨kq,ag,rfl,HA,HJ2,c,i,HB⟩:=hcut
  cases kq with
  | zero=>exact absurd HA.out (by simp[spec_RuleHolds.j0])
  | succ kj2=>
   have H:=HA.out;clear HA;simp only[spec_RuleHolds.j0]at H;by_cases ac:ag=true
   ·subst ac;replace H:=iT H;obtain rfl:=Option.some.inj H;go_wp2;go_ret;exact⟨rE,cB⟩
   ·replace ac:=Bool.eq_false_iff.mpr ac;subst ac;replace H:=iF H;have H':=aM H;clear H;go_wp2
    go_loopg [5] kj2 (fun kq a4 w'=> ∃ (a:Int),a4= .int .i64 a∧Aside0 (spec_RuleHolds.l0 kq a g b m n o l j=some r)∧Aside0 (kq≤kj2)∧Aside0 (w'.heap[q]?=some (.cells #[(.slice G g.length I),(.slice Y b.length J),.int .i64 m,.int .i64 n] 81 (0,0)))∧Aside0 (w'.heap[D]?=some (.cells #[.int .i64 o,.int .i64 l,(.slice L j.length M)] 28 (0,0)))∧Aside0 (Below w.heap.size w w'))
    case atStart=>exact⟨(0),rS,H',⟨Nat.le_refl _⟩,⟨mK c⟩,⟨mK i⟩,⟨cB⟩⟩
    case round=>
     clear H';(try clear E);(try clear O);(try clear an);(try clear ac);(try clear aL aN aO);(try clear aS aT aU aV);(try clear aD aE aF aG);(try clear aP aQ aR);(try clear aW aX aY aZ);(try clear aH aI aJ aK);obtain⟨a,rfl,HA,HK2,c,i,HB⟩:=hrel
     cases gk with
     | zero=>exact absurd HA.out (by simp[spec_RuleHolds.l0])
     | succ k2=>
      have H:=HA.out;clear HA;simp only[spec_RuleHolds.l0]at H;by_cases X:a<(b.length:Int)
      ·rw[if_pos X]at H;have a5:=decide_eq_true X;clear X;replace H:=gD H;obtain⟨a8,H⟩:=H;replace H:=bE H;obtain⟨al,a0,H⟩:=H;by_cases ah:al=true
       ·subst ah;replace H:=iT H;have H':=aM H;clear H;have hnb18:=aa.out;have hnc18:=ab.out;obtain⟨a9,ba,bb,bd,be,bf,bg,bh⟩:=cz4 c
        try go_wp2
        replace c:=dB c;replace i:=dB i;replace HB:=dW HB;have U:0≤(a:Int):=dA;have W:a<(b.length:Int):=dA;obtain⟨d,ao,t,u,v,x,z,A⟩:=at_T114 HR0_1.out a U W;have aw:=A;have av:=z;have au:=x;have ar:=v;have aq:=u;have ap:=t;cases ao;replace t:=(bc HB t :);replace u:=(bc HB u :);replace v:=(bc HB v :);replace x:=(bc HB x :);replace z:=(bc HB z :);replace A:=(bc HB A :);replace U:=eq_true U;replace W:=eq_true W
        refine sZ 8 (fun w'=>w'.cell? ⟨q,0,none⟩=some (.slice G g.length I)∧w'.cell? ⟨q,1,none⟩=some (.slice (some d) b.length J)∧w'.cell? ⟨q,2,none⟩=some (.int .i64 m)∧w'.cell? ⟨q,3,none⟩=some (.int .i64 n)∧w'.cell? ⟨D,0,none⟩=some (.int .i64 o)∧w'.cell? ⟨D,1,none⟩=some (.int .i64 l)∧w'.cell? ⟨D,2,none⟩=some (.slice L j.length M)∧w'.cell? (d.add ((a).toNat*6))=some (.int .i64 ((rd_T114 b a).f0))∧w'.cell? ⟨(d.add ((a).toNat*6)).block,(d.add ((a).toNat*6)).off+1,none⟩=some (.int .i64 ((rd_T114 b a).f1.f0))∧w'.cell? ⟨(d.add ((a).toNat*6)).block,(d.add ((a).toNat*6)).off+2,none⟩=some (.int .i64 ((rd_T114 b a).f1.f1))∧w'.cell? ⟨(d.add ((a).toNat*6)).block,(d.add ((a).toNat*6)).off+3,none⟩=some (.int .i64 ((rd_T114 b a).f2))∧w'.cell? ⟨(d.add ((a).toNat*6)).block,(d.add ((a).toNat*6)).off+4,none⟩=some (.int .i64 ((rd_T114 b a).f3.f0))∧w'.cell? ⟨(d.add ((a).toNat*6)).block,(d.add ((a).toNat*6)).off+5,none⟩=some (.int .i64 ((rd_T114 b a).f3.f1))) spec_RuleHolds.tab6 spec_RuleHolds.bits6 qh21x0 fun HT_ HW_ hHeld=>?_
        generalize wr.drew=bi at c i HB t u v x z A hHeld ⊢;refine pZ 0 25 1 ?_;refine pZ 2 27 5 ?_;refine tZ 1 26 7 (y:=q21x0) (h:=?_);refine pZ 3 28 15 ?_;refine tZ 4 29 31 (y:=q21x0) (h:=?_);refine tZ 5 30 63 (y:=q21x0) (h:=?_)
        refine oZ 6 31 127 fun K hK=>?_
        refine eX Try.func95 (spec_CondHolds.calls a0.out (cH HR1_2) HC1_2.out) ?_
        intro bj hb;replace c:=kB c hb;replace i:=kB i hb;replace HB:=sB hb;(try clear hb)
        refine hK.out _ _ qh21x0 (fun hHeld=>?_)
        clear hK K;refine normZ (some 31) ?_
        refine pZ 7 32 255 ?_
        refine done_ (done_of HT_.out (by kernel_rfl)) ?_
        try go_wp2
        go_roundg k2
        case measure=>have:=HJ2.out;have:=HK2.out;omega
        case rel=>exact⟨(wrap64 (a+1)),rS,H',⟨by have:=HJ2.out;have:=HK2.out;omega⟩,⟨mK c⟩,⟨mK i⟩,⟨cB⟩⟩
       ·replace ah:=Bool.eq_false_iff.mpr ah;subst ah;replace H:=iF H;obtain rfl:=Option.some.inj H;have hnb22:=aa.out;have hnc22:=ab.out;obtain⟨bk,bl,bm,bn,bo,bp,bq,br⟩:=cz4 c
        try go_wp2
        replace c:=dB c;replace i:=dB i;replace HB:=dW HB;have U:0≤(a:Int):=dA;have W:a<(b.length:Int):=dA;obtain⟨d,ao,t,u,v,x,z,A⟩:=at_T114 HR0_1.out a U W;have aw:=A;have av:=z;have au:=x;have ar:=v;have aq:=u;have ap:=t;cases ao;replace t:=(bc HB t :);replace u:=(bc HB u :);replace v:=(bc HB v :);replace x:=(bc HB x :);replace z:=(bc HB z :);replace A:=(bc HB A :);replace U:=eq_true U;replace W:=eq_true W
        refine sZ 8 (fun w'=>w'.cell? ⟨q,0,none⟩=some (.slice G g.length I)∧w'.cell? ⟨q,1,none⟩=some (.slice (some d) b.length J)∧w'.cell? ⟨q,2,none⟩=some (.int .i64 m)∧w'.cell? ⟨q,3,none⟩=some (.int .i64 n)∧w'.cell? ⟨D,0,none⟩=some (.int .i64 o)∧w'.cell? ⟨D,1,none⟩=some (.int .i64 l)∧w'.cell? ⟨D,2,none⟩=some (.slice L j.length M)∧w'.cell? (d.add ((a).toNat*6))=some (.int .i64 ((rd_T114 b a).f0))∧w'.cell? ⟨(d.add ((a).toNat*6)).block,(d.add ((a).toNat*6)).off+1,none⟩=some (.int .i64 ((rd_T114 b a).f1.f0))∧w'.cell? ⟨(d.add ((a).toNat*6)).block,(d.add ((a).toNat*6)).off+2,none⟩=some (.int .i64 ((rd_T114 b a).f1.f1))∧w'.cell? ⟨(d.add ((a).toNat*6)).block,(d.add ((a).toNat*6)).off+3,none⟩=some (.int .i64 ((rd_T114 b a).f2))∧w'.cell? ⟨(d.add ((a).toNat*6)).block,(d.add ((a).toNat*6)).off+4,none⟩=some (.int .i64 ((rd_T114 b a).f3.f0))∧w'.cell? ⟨(d.add ((a).toNat*6)).block,(d.add ((a).toNat*6)).off+5,none⟩=some (.int .i64 ((rd_T114 b a).f3.f1))) spec_RuleHolds.tab6 spec_RuleHolds.bits6 qh21x0 fun HT_ HW_ hHeld=>?_
        generalize wr.drew=bs at c i HB t u v x z A hHeld ⊢;refine pZ 0 25 1 ?_;refine pZ 2 27 5 ?_;refine tZ 1 26 7 (y:=q21x0) (h:=?_);refine pZ 3 28 15 ?_;refine tZ 4 29 31 (y:=q21x0) (h:=?_);refine tZ 5 30 63 (y:=q21x0) (h:=?_)
        refine oZ 6 31 127 fun K hK=>?_
        refine eX Try.func95 (spec_CondHolds.calls a0.out (cH HR1_2) HC1_2.out) ?_
        intro bu hb;replace c:=kB c hb;replace i:=kB i hb;replace HB:=sB hb;(try clear hb)
        refine hK.out _ _ qh21x0 (fun hHeld=>?_)
        clear hK K;refine normZ (some 31) ?_
        refine pZ 7 32 255 ?_
        refine done_ (done_of HT_.out (by kernel_rfl)) ?_
        try go_wp2
        go_ret;exact⟨rE,cB⟩
      ·rw[if_neg X]at H;have a5:=decide_eq_false X;clear X;obtain rfl:=Option.some.inj H;have hnb26:=aa.out;have hnc26:=ab.out;obtain⟨bv,bw,bx,bz,bA,bB,bC,bD⟩:=cz4 c;go_wp2;go_ret;exact⟨rE,cB⟩
end Go.Proofs.Ytpbalojiaghfhaa.PFnCompilesSmall
