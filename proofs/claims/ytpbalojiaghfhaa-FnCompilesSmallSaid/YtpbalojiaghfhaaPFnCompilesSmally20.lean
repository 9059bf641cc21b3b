import Derived.Test.YtpbalojiaghfhaaPFnCompilesSmally0
import Derived.Test.YtpbalojiaghfhaaPFnCompilesSmally3
import Derived.Test.YtpbalojiaghfhaaPFnCompilesSmally18
import Derived.Test.YtpbalojiaghfhaaPFnCompilesSmally19
namespace Go.Proofs.Ytpbalojiaghfhaa.PFnCompilesSmall
open Go.RowKit Go.Proofs.YtpbalojiaghfhaaW.PrintWords Go.Proofs.YtpbalojiaghfhaaW.PrintLast Go.Proofs.YtpbalojiaghfhaaW.PrintMore Go.Proofs.YtpbalojiaghfhaaW.Z
open Kd
attribute [local go_sem] isS max2_int min2_int max_two min_two max_three min_three max_four min_four
set_option linter.unusedVariables false
set_option linter.unusedSimpArgs false
theorem qh20x0 {P:Prop} (h:P:=by exact⟨(blk_cell c.out 0).trans rfl,(blk_cell c.out 1).trans rfl,(blk_cell c.out 2).trans rfl,(blk_cell a.out 0).trans rfl,(blk_cell a.out 1).trans rfl,(blk_cell a.out 2).trans rfl,(blk_cell a.out 3).trans rfl,(blk_cell a.out 4).trans rfl,(blk_cell a.out 5).trans rfl,((bc HB au :)),((bc HB av :))⟩):P:=h
def spec_CondHolds.j0:Nat→Bool→Int→Int→Int→Int→Int→Int→Int→Int→List (S93)→Option (Bool)
  | 0,_,_,_,_,_,_,_,_,_,_=>none
  | k+1,aw,I,ax,ay,s,az,aA,bh,bi,Y=>if aw=true then(some false)else(if 0≤I then(if I<(Y.length:Int)then((spec_WideAnd.f ((rd_T93 Y I).f0) ((rd_T93 Y I).f1) ax ay).bind fun ao=>((spec_WideCmp.f ao.1 ao.2 az aA).bind fun p=>(if s=1 then(some (p == 0))else(if s=2 then(some (p !=0))else(if s=3 then(some (decide (p<0)))else(if s=4 then(some (decide (p≤0)))else(if s=5 then(some (decide (p>0)))else(some (decide (p≥0))))))))))else(none))else(none))
def spec_CondHolds.f (k:Nat) (b:Int) (i:Int) (j:Int) (g:Int) (l:Int) (m:Int) (n:Int) (o:Int) (d:List (S93)):Option (Bool):=(spec_CondOk.f b i j g l m).bind fun t=>(if t=true then((spec_CallOk.f k n o d).bind fun u=>(spec_CondHolds.j0 k (!u) b i j g l m n o d))else(spec_CondHolds.j0 k true b i j g l m n o d))
def spec_CondHolds.T3:Bool×List (List Nat×List Nat):=(true,[([],[]),([0],[0]),([],[]),([2],[2]),([1,3],[1,3]),([4],[4]),([],[]),([6],[6]),([5,7],[5,7]),([],[]),([9],[9]),([8,10,8],[8,10]),([11,11,0,1,2,3,4,5,6,7,8,9,10,11],[11])])
def spec_CondHolds.B3:List Nat:=[0,1,0,4,15,31,0,64,255,0,512,2047,4095]
theorem spec_CondHolds.tab3:rtab .any (opsOf Try.f95 3)=spec_CondHolds.T3:=by kernel_rfl
theorem spec_CondHolds.bits3:waitsOk spec_CondHolds.T3.2 spec_CondHolds.B3=true:=by kernel_rfl
theorem q20x0 {P:Prop} (h:P:=by
 rintro w' ⟨s0,s1,s2,s3,s4,s5,s6,s7,s8,s9,s10⟩
 go_simp
 with_reducible rfl):P:=h
set_option maxHeartbeats 8000000 in
set_option maxRecDepth 100000 in
theorem spec_CondHolds.calls {k:Nat}{b:Int}{i:Int}{j:Int}{g:Int}{l:Int}{m:Int}{n:Int}{o:Int}{J:Option Addr}{v:Nat}{d:List (S93)}{r:Bool}{w:World}(h:spec_CondHolds.f k b i j g l m n o d=some r)(ap:Kd.C k93 w J d.length d)(aq:d.length≤v) :
 Calls Try.prog 95 #[.agg #[.int .i64 b,.int .i64 i,.int .i64 j,.int .i64 g,.int .i64 l,.int .i64 m],.agg #[.int .i64 n,.int .i64 o,.slice J d.length v]] w fun e w'=>e= .returned (.bool r)∧Below w.heap.size w w':=by
 have hu114:=Try.underlying114;have hu28:=Try.underlying28;have hu93:=Try.underlying93;have HR1_2:=aM ap;have HC1_2:=aM aq;clear ap aq;have HB:=rW w;have H:((spec_CondOk.f b i j g l m).bind fun t=>(if t=true then((spec_CallOk.f k n o d).bind fun u=>(spec_CondHolds.j0 k (!u) b i j g l m n o d))else(spec_CondHolds.j0 k true b i j g l m n o d)))=some r:=h;clear h;have HC3:=aM H;clear H
 go_enter Try.func95,Try.ntmps95
 go_upto_region 1 with(first|((with_reducible refine gN 2 ?_);refine boxZ 2 #[.int .i64 b,.int .i64 i,.int .i64 j,.int .i64 g,.int .i64 l,.int .i64 m] 114 ?_;intro q hg bj hbox hb;have a:=aM hbox;have GW896:=gS hg;have GE896:=gS hg;replace HB:=sB hb;clear hb hbox hg)|((with_reducible refine gN 3 ?_);refine boxZ 3 #[.int .i64 n,.int .i64 o,.slice J d.length v] 28 ?_;intro L hg bk hbox hb;have c:=aM hbox;have GW897:=gS hg;have GE897:=gS hg;replace HB:=sB hb;have aa:=nL hg a;have ab:=nG hg a;replace a:=kB a hb;clear hb hbox hg))
 (try simp only[Act.put,List.setIfInBounds_toArray,List.set_cons_zero,List.set_cons_succ])
 go_cut [13] (fun aB wc=> ∃ (kq:Nat) (M:Bool),aB= .bool M∧Aside0 (spec_CondHolds.j0 kq M b i j g l m n o d=some r)∧Aside0 (kq≤k)∧Aside0 (wc.heap[q]?=some (.cells #[.int .i64 b,.int .i64 i,.int .i64 j,.int .i64 g,.int .i64 l,.int .i64 m] 114 (0,0)))∧Aside0 (wc.heap[L]?=some (.cells #[.int .i64 n,.int .i64 o,(.slice J d.length v)] 28 (0,0)))∧Aside0 (Below w.heap.size w wc))
 case first=>
  have H:=HC3.out;clear HC3;replace H:=bE H;obtain⟨t,ar,H⟩:=H;by_cases x:t=true
  ·subst x;replace H:=iT H;replace H:=bE H;obtain⟨u,aC,H⟩:=H;have H':=aM H;clear H;have hnb9:=aa.out;have hnc9:=ab.out;obtain⟨aD,aE,aF,aG,aH,aI,aJ,aK,aL,aN,aO,aP⟩:=cz6 a
   go_wp2_with (first|((with_reducible refine gF 111 ?_);refine gX (some 7) Try.func111 (spec_CondOk.calls ar.out) ?_;intro bl hb;replace a:=kB a hb;replace c:=kB c hb;replace HB:=sB hb;(try clear hb);obtain⟨aQ,aR,aS,aT,aU,aV⟩:=cz3 c)|(go_at_call 44;(with_reducible refine(spec_CallOk.calls aC.out ?side1 ?side2).mono ?_);(case side1=>exact cH HR1_2);(case side2=>exact HC1_2.out);rintro e bm ⟨rfl,hb⟩;replace a:=kB a hb;replace c:=kB c hb;replace HB:=sB hb;(try clear hb)))
   go_meet
   case rel=>exact⟨_,(!u),rS,H',⟨oL⟩,⟨mK a⟩,⟨mK c⟩,⟨cB⟩⟩
  ·replace x:=Bool.eq_false_iff.mpr x;subst x;replace H:=iF H;have H':=aM H;clear H;have hnb14:=aa.out;have hnc14:=ab.out;obtain⟨aW,aX,aY,aZ,a0,a1,a2,a3,a4,a5,a6,a7⟩:=cz6 a
   go_wp2_with (first|((with_reducible refine gF 111 ?_);refine gX (some 7) Try.func111 (spec_CondOk.calls ar.out) ?_;intro bn hb;replace a:=kB a hb;replace c:=kB c hb;replace HB:=sB hb;(try clear hb)))
   go_meet
   case rel=>exact⟨_,(true),rS,H',⟨oL⟩,⟨mK a⟩,⟨mK c⟩,⟨cB⟩⟩
 case rest=>
  clear HC3
  (try clear x)
  (try clear aD)
  (try clear aE)
  (try clear aF)
  (try clear aG)
  (try clear aH)
  (try clear aI)
  (try clear aQ)
  (try clear aR)
  (try clear aS)
  (try clear aW)
  (try clear aX)
  (try clear aY)
  (try clear aZ)
  (try clear a0)
  (try clear a1)
  (try clear aJ)
  (try clear aK)
  (try clear aL)
  (try clear aN)
  (try clear aO)
  (try clear aP)
  (try clear aT)
  (try clear aU)
  (try clear aV)
  (try clear a2)
  (try clear a3)
  (try clear a4)
  (try clear a5)
  (try clear a6)
  (try clear a7);obtain⟨kq,M,rfl,HA,HJ2,a,c,HB⟩:=hcut;cases kq with
  | zero=>exact absurd HA.out (by simp[spec_CondHolds.j0])
  | succ kj2=>
   have H:=HA.out;clear HA;simp only[spec_CondHolds.j0]at H;by_cases O:M=true
   ·subst O;replace H:=iT H;obtain rfl:=Option.some.inj H
    go_wp2
    go_ret;exact⟨rE,cB⟩
   ·replace O:=Bool.eq_false_iff.mpr O;subst O;replace H:=iF H;replace H:=gD H;obtain⟨bo,H⟩:=H;replace H:=gD H;obtain⟨bp,H⟩:=H;replace H:=bE H;obtain⟨⟨bq,br⟩,a8,H⟩:=H
    (try dsimp only at H);replace H:=bE H;obtain⟨p,a9,H⟩:=H
    try go_wp2;replace a:=dB a;replace c:=dB c;replace HB:=dW HB;have ac:0≤(b:Int):=dA;have ad:b<(d.length:Int):=dA;obtain⟨U,ba,W,X⟩:=at_T93 HR1_2.out b ac ad;have av:=X;have au:=W;cases ba;replace W:=(bc HB W :);replace X:=(bc HB X :);replace ac:=eq_true ac;replace ad:=eq_true ad;refine sZ 13 (fun w'=>w'.cell? ⟨L,0,none⟩=some (.int .i64 n)∧w'.cell? ⟨L,1,none⟩=some (.int .i64 o)∧w'.cell? ⟨L,2,none⟩=some (.slice (some U) d.length v)∧w'.cell? ⟨q,0,none⟩=some (.int .i64 b)∧w'.cell? ⟨q,1,none⟩=some (.int .i64 i)∧w'.cell? ⟨q,2,none⟩=some (.int .i64 j)∧w'.cell? ⟨q,3,none⟩=some (.int .i64 g)∧w'.cell? ⟨q,4,none⟩=some (.int .i64 l)∧w'.cell? ⟨q,5,none⟩=some (.int .i64 m)∧w'.cell? (U.add ((b).toNat*2))=some (.int .i64 ((rd_T93 d b).f0))∧w'.cell? ⟨(U.add ((b).toNat*2)).block,(U.add ((b).toNat*2)).off+1,none⟩=some (.int .i64 ((rd_T93 d b).f1))) spec_CondHolds.tab3 spec_CondHolds.bits3 qh20x0 fun HT_ HW_ hHeld=>?_;generalize wc.drew=bs at a c HB W X hHeld ⊢;refine pZ 0 14 1 ?_;refine pZ 2 16 5 ?_;refine pZ 6 20 69 ?_;refine pZ 9 23 581 ?_;refine tZ 1 15 583 (y:=q20x0) (h:=?_);refine tZ 3 17 591 (y:=q20x0) (h:=?_);refine pZ 4 18 607 ?_;refine tZ 5 19 639 (y:=q20x0) (h:=?_);refine tZ 7 21 767 (y:=q20x0) (h:=?_);refine tZ 10 24 1791 (y:=q20x0) (h:=?_);refine oZ 8 22 2047 fun K hK=>?_;refine eX Try.func113 (spec_WideAnd.calls a8.out) ?_;intro bu hb;replace a:=kB a hb;replace c:=kB c hb;replace HB:=sB hb
    (try clear hb);refine hK.out _ _ qh20x0 (fun hHeld=>?_);clear hK K;refine normZ (some 22) ?_;refine oZ 11 25 4095 fun K hK=>?_;refine eX Try.func112 (spec_WideCmp.calls a9.out) ?_;intro bv hb;replace a:=kB a hb;replace c:=kB c hb;replace HB:=sB hb
    (try clear hb);refine hK.out _ _ qh20x0 (fun hHeld=>?_);clear hK K;refine normZ (some 25) ?_;refine pZ 12 5 8191 ?_;refine done_ (done_of HT_.out (by kernel_rfl)) ?_;have hnb26:=aa.out;have hnc26:=ab.out;obtain⟨bw,bx,bz,bA,bB,bC,bD,bF,bG,bH,bI,bJ⟩:=cz6 a;by_cases z:g=1
    ·rw[if_pos z]at H;obtain⟨ae,af⟩:=eT z;clear z;obtain rfl:=Option.some.inj H
     (try rw[ae])
     (try rw[af])
     (try rw[bb])
     try go_wp2
     go_ret;exact⟨rE,cB⟩
    ·rw[if_neg z]at H;obtain⟨ae,af⟩:=eF z
     (try rw[ae])
     (try rw[af])
     (try rw[bb]);by_cases A:g=2
     ·rw[if_pos A]at H;obtain⟨ag,ah⟩:=eT A;clear A;obtain rfl:=Option.some.inj H
      (try rw[ag])
      (try rw[ah])
      (try rw[bd])
      try go_wp2
      go_ret;exact⟨rE,cB⟩
     ·rw[if_neg A]at H;obtain⟨ag,ah⟩:=eF A
      (try rw[ag])
      (try rw[ah])
      (try rw[bd]);by_cases D:g=3
      ·rw[if_pos D]at H;obtain⟨ai,aj⟩:=eT D;clear D;obtain rfl:=Option.some.inj H
       (try rw[ai])
       (try rw[aj])
       (try rw[be])
       try go_wp2
       go_ret;exact⟨rE,cB⟩
      ·rw[if_neg D]at H;obtain⟨ai,aj⟩:=eF D
       (try rw[ai])
       (try rw[aj])
       (try rw[be]);by_cases E:g=4
       ·rw[if_pos E]at H;obtain⟨ak,al⟩:=eT E;clear E;obtain rfl:=Option.some.inj H
        (try rw[ak])
        (try rw[al])
        (try rw[bf])
        try go_wp2
        go_ret;exact⟨rE,cB⟩
       ·rw[if_neg E]at H;obtain⟨ak,al⟩:=eF E
        (try rw[ak])
        (try rw[al])
        (try rw[bf]);by_cases G:g=5
        ·rw[if_pos G]at H;obtain⟨am,an⟩:=eT G;clear G;obtain rfl:=Option.some.inj H
         (try rw[am])
         (try rw[an])
         (try rw[bg])
         try go_wp2
         go_ret;exact⟨rE,cB⟩
        ·rw[if_neg G]at H;obtain⟨am,an⟩:=eF G;obtain rfl:=Option.some.inj H
         (try rw[am])
         (try rw[an])
         (try rw[bg])
         try go_wp2
         go_ret;exact⟨rE,cB⟩
end Go.Proofs.Ytpbalojiaghfhaa.PFnCompilesSmall
