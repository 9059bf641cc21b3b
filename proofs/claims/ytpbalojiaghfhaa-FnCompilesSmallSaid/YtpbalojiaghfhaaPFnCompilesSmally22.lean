import Derived.Test.YtpbalojiaghfhaaPFnCompilesSmally0
import Derived.Test.YtpbalojiaghfhaaPFnCompilesSmally3
import Derived.Test.YtpbalojiaghfhaaPFnCompilesSmally18
import Derived.Test.YtpbalojiaghfhaaPFnCompilesSmally19
import Derived.Test.YtpbalojiaghfhaaPFnCompilesSmally21
namespace Go.Proofs.Ytpbalojiaghfhaa.PFnCompilesSmall
open Go.RowKit Go.Proofs.YtpbalojiaghfhaaW.PrintWords Go.Proofs.YtpbalojiaghfhaaW.PrintLast Go.Proofs.YtpbalojiaghfhaaW.PrintMore Go.Proofs.YtpbalojiaghfhaaW.Z
open Kd
attribute [local go_sem] isS max2_int min2_int max_two min_two max_three min_three max_four min_four
set_option linter.unusedVariables false
set_option linter.unusedSimpArgs false
theorem qh22x0 {P:Prop} (h:P:=by exact⟨(blk_cell a.out 0).trans rfl,(blk_cell a.out 1).trans rfl,(blk_cell a.out 2).trans rfl,(blk_cell a.out 3).trans rfl,(blk_cell c.out 0).trans rfl,(blk_cell c.out 1).trans rfl,(blk_cell c.out 2).trans rfl,((bc HB af :)),((bc HB ag :)),((bc HB ah :)),((bc HB ai :))⟩):P:=h
mutual
def spec_Decide.j0:Nat→Bool→Int→Int→Int→List (S81)→Int→Int→List (S93)→Option (Int)
  | 0,_,_,_,_,_,_,_,_=>none
  | k+1,bY,aw,aj,ak,t,al,am,an=>if bY=true then(some 0)else(spec_Decide.l0 k 0 aw aj ak t al am an)
def spec_Decide.l0:Nat→Int→Int→Int→Int→List (S81)→Int→Int→List (S93)→Option (Int)
  | 0,_,_,_,_,_,_,_,_=>none
  | k+1,u,aw,aj,ak,t,al,am,an=>if u<(t.length:Int)then(if 0≤u then((spec_RuleHolds.f k ((rd_T81 t u).f0) ((rd_T81 t u).f1) ((rd_T81 t u).f2) ((rd_T81 t u).f3) al am an).bind fun ax=>(if ax=true then((spec_ResultOf.f ((rd_T81 t u).f2) ((rd_T81 t u).f3)).bind fun aK=>(some aK))else(spec_Decide.l0 k (wrap64 (u+1)) aw aj ak t al am an)))else(none))else((spec_ResultOf.f aj ak).bind fun aL=>(some aL))
end
def spec_Decide.f (k:Nat) (j:Int) (o:Int) (p:Int) (d:List (S81)) (m:Int) (q:Int) (l:List (S93)):Option (Int):=(spec_PolicyOk.f k j o p d).bind fun ay=>(if ay=true then((spec_CallOk.f k m q l).bind fun az=>(if az=true then(spec_Decide.j0 k (m !=j) j o p d m q l)else(spec_Decide.j0 k true j o p d m q l)))else(spec_Decide.j0 k true j o p d m q l))
def spec_Decide.T7:Bool×List (List Nat×List Nat):=(true,[([],[]),([0],[0]),([],[]),([1,2],[1,2]),([3],[3]),([4],[4]),([],[]),([6],[6]),([],[]),([7,8],[7,8]),([9],[9]),([10],[10]),([5,11],[5,11]),([12,12,0,1,2,3,4,5,6,7,8,9,10,11,12],[12])])
def spec_Decide.B7:List Nat:=[0,1,0,7,15,31,0,64,0,448,960,1984,4095,8191]
theorem spec_Decide.tab7:rtab .any (opsOf Try.f20 7)=spec_Decide.T7:=by kernel_rfl
theorem spec_Decide.bits7:waitsOk spec_Decide.T7.2 spec_Decide.B7=true:=by kernel_rfl
theorem q22x0 {P:Prop} (h:P:=by
 rintro w' ⟨s0,s1,s2,s3,s4,s5,s6,s7,s8,s9,s10,s11⟩
 go_simp
 with_reducible rfl):P:=h
set_option maxHeartbeats 8000000 in
set_option maxRecDepth 100000 in
theorem spec_Decide.calls {k:Nat}{j:Int}{o:Int}{p:Int}{Y:Option Addr}{D:Nat}{d:List (S81)}{m:Int}{q:Int}{G:Option Addr}{I:Nat}{l:List (S93)}{r:Int}{w:World}(h:spec_Decide.f k j o p d m q l=some r)(aN:Kd.C k81 w Y d.length d)(aO:d.length≤D)(aP:Kd.C k93 w G l.length l)(aQ:l.length≤I) :
 Calls Try.prog 20 #[.agg #[.int .i64 j,.int .i64 o,.int .i64 p,.slice Y d.length D],.agg #[.int .i64 m,.int .i64 q,.slice G l.length I]] w fun e w'=>e= .returned (.int .i64 r)∧Below w.heap.size w w':=by
 have hu41:=Try.underlying41;have hu28:=Try.underlying28;have hu81:=Try.underlying81;have HR0_3:=aM aN;have HC0_3:=aM aO;clear aN aO;have HR1_2:=aM aP;have HC1_2:=aM aQ;clear aP aQ;have HB:=rW w
 unfold spec_Decide.f at h;have H:=h
 clear h;have HC3:=aM H;clear H;go_enter Try.func20,Try.ntmps20
 go_upto_region 1 with(first|((with_reducible refine gN 2 ?_);refine boxZ 2 #[.int .i64 j,.int .i64 o,.int .i64 p,.slice Y d.length D] 41 ?_;intro s hg ce hbox hb;have a:=aM hbox;have GW909:=gS hg;have GE909:=gS hg;replace HB:=sB hb;clear hb hbox hg)|((with_reducible refine gN 3 ?_);refine boxZ 3 #[.int .i64 m,.int .i64 q,.slice G l.length I] 28 ?_;intro E hg cf hbox hb;have c:=aM hbox;have GW910:=gS hg;have GE910:=gS hg;replace HB:=sB hb;have M:=nL hg a;have O:=nG hg a;replace a:=kB a hb;clear hb hbox hg))
 (try simp only[Act.put,List.setIfInBounds_toArray,List.set_cons_zero,List.set_cons_succ])
 go_cut [20] (fun bZ wc=> ∃ (kq:Nat) (ao:Bool),bZ= .bool ao∧Aside0 (spec_Decide.j0 kq ao j o p d m q l=some r)∧Aside0 (kq≤k)∧Aside0 (wc.heap[s]?=some (.cells #[.int .i64 j,.int .i64 o,.int .i64 p,(.slice Y d.length D)] 41 (0,0)))∧Aside0 (wc.heap[E]?=some (.cells #[.int .i64 m,.int .i64 q,(.slice G l.length I)] 28 (0,0)))∧Aside0 (Below w.heap.size w wc))
 case first=>
  have H:=HC3.out;clear HC3;replace H:=bE H;obtain⟨ay,aA,H⟩:=H;by_cases U:ay=true
  ·subst U;replace H:=iT H;replace H:=bE H;obtain⟨az,aR,H⟩:=H;by_cases W:az=true
   ·subst W;replace H:=iT H;have H':=aM H;clear H;have hnb10:=M.out;have hnc10:=O.out;obtain⟨aS,aT,aU,aV,aW,aX,aY,aZ⟩:=cz4 a
    go_wp2_with (first|((with_reducible refine gF 54 ?_);refine gX (some 7) Try.func54 (spec_PolicyOk.calls aA.out (cH HR0_3) HC0_3.out) ?_;intro cg hb;replace a:=kB a hb;replace c:=kB c hb;replace HB:=sB hb;(try clear hb);obtain⟨a0,a1,a2,a3,a4,a5⟩:=cz3 c)|(go_at_call 44;(with_reducible refine(spec_CallOk.calls aR.out ?side1 ?side2).mono ?_);(case side1=>exact cH HR1_2);(case side2=>exact HC1_2.out);rintro e ch ⟨rfl,hb⟩;replace a:=kB a hb;replace c:=kB c hb;replace HB:=sB hb;(try clear hb);obtain⟨a6,a7,a8,a9,ba,bb⟩:=cz3 c;obtain⟨bd,be,bf,bg,bh,bi,bj,bk⟩:=cz4 a))
    go_meet
    case rel=>exact⟨_,((m !=j)),rS,H',⟨oL⟩,⟨mK a⟩,⟨mK c⟩,⟨cB⟩⟩
   ·replace W:=Bool.eq_false_iff.mpr W;subst W;replace H:=iF H;have H':=aM H;clear H;have hnb17:=M.out;have hnc17:=O.out;obtain⟨bl,bm,bn,bo,bp,bq,br,bs⟩:=cz4 a
    go_wp2_with (first|((with_reducible refine gF 54 ?_);refine gX (some 7) Try.func54 (spec_PolicyOk.calls aA.out (cH HR0_3) HC0_3.out) ?_;intro ci hb;replace a:=kB a hb;replace c:=kB c hb;replace HB:=sB hb;(try clear hb);obtain⟨bu,bv,bw,bx,bz,bA⟩:=cz3 c)|(go_at_call 44;(with_reducible refine(spec_CallOk.calls aR.out ?side1 ?side2).mono ?_);(case side1=>exact cH HR1_2);(case side2=>exact HC1_2.out);rintro e cj ⟨rfl,hb⟩;replace a:=kB a hb;replace c:=kB c hb;replace HB:=sB hb;(try clear hb)))
    go_meet
    case rel=>exact⟨_,(true),rS,H',⟨oL⟩,⟨mK a⟩,⟨mK c⟩,⟨cB⟩⟩
  ·replace U:=Bool.eq_false_iff.mpr U;subst U;replace H:=iF H;have H':=aM H;clear H;have hnb22:=M.out;have hnc22:=O.out;obtain⟨bB,bC,bD,bF,bG,bH,bI,bJ⟩:=cz4 a
   go_wp2_with (first|((with_reducible refine gF 54 ?_);refine gX (some 7) Try.func54 (spec_PolicyOk.calls aA.out (cH HR0_3) HC0_3.out) ?_;intro ck hb;replace a:=kB a hb;replace c:=kB c hb;replace HB:=sB hb;(try clear hb)))
   go_meet
   case rel=>exact⟨_,(true),rS,H',⟨oL⟩,⟨mK a⟩,⟨mK c⟩,⟨cB⟩⟩
 case rest=>
  clear HC3;(try clear U);(try clear W);(try clear aS aT aU aV);(try clear a0 a1 a2);(try clear a6 a7 a8);(try clear bd be bf bg);(try clear bl bm bn bo);(try clear bu bv bw);(try clear bB bC bD bF);(try clear aW aX aY aZ);(try clear a3 a4 a5);(try clear a9 ba bb);(try clear bh bi bj bk);(try clear bp bq br bs);(try clear bx bz bA);(try clear bG bH bI bJ);obtain⟨kq,ao,rfl,HA,HJ2,a,c,HB⟩:=hcut
  cases kq with
  | zero=>exact absurd HA.out (by simp[spec_Decide.j0])
  | succ kj2=>
   have H:=HA.out;clear HA;simp only[spec_Decide.j0]at H;by_cases aa:ao=true
   ·subst aa;replace H:=iT H;obtain rfl:=Option.some.inj H;go_wp2;go_ret;exact⟨rE,cB⟩
   ·replace aa:=Bool.eq_false_iff.mpr aa;subst aa;replace H:=iF H;have H':=aM H;clear H;go_wp2
    go_loopg [5] kj2 (fun kq b0 w'=> ∃ (b:Int),b0= .int .i64 b∧Aside0 (spec_Decide.l0 kq b j o p d m q l=some r)∧Aside0 (kq≤kj2)∧Aside0 (w'.heap[s]?=some (.cells #[.int .i64 j,.int .i64 o,.int .i64 p,(.slice Y d.length D)] 41 (0,0)))∧Aside0 (w'.heap[E]?=some (.cells #[.int .i64 m,.int .i64 q,(.slice G l.length I)] 28 (0,0)))∧Aside0 (Below w.heap.size w w'))
    case atStart=>exact⟨(0),rS,H',⟨Nat.le_refl _⟩,⟨mK a⟩,⟨mK c⟩,⟨cB⟩⟩
    case round=>
     clear H';(try clear U);(try clear W);(try clear aa);(try clear aS aT aU aV);(try clear a0 a1 a2);(try clear a6 a7 a8);(try clear bd be bf bg);(try clear bl bm bn bo);(try clear bu bv bw);(try clear bB bC bD bF);(try clear aW aX aY aZ);(try clear a3 a4 a5);(try clear a9 ba bb);(try clear bh bi bj bk);(try clear bp bq br bs);(try clear bx bz bA);(try clear bG bH bI bJ);obtain⟨b,rfl,HA,HK2,a,c,HB⟩:=hrel
     cases gk with
     | zero=>exact absurd HA.out (by simp[spec_Decide.l0])
     | succ k2=>
      have H:=HA.out;clear HA;simp only[spec_Decide.l0]at H;by_cases X:b<(d.length:Int)
      ·rw[if_pos X]at H;have b1:=decide_eq_true X;clear X;replace H:=gD H;obtain⟨cl,H⟩:=H;replace H:=bE H;obtain⟨ax,bL,H⟩:=H;by_cases ap:ax=true
       ·subst ap;replace H:=iT H;replace H:=bE H;obtain⟨aK,b5,H⟩:=H;obtain rfl:=Option.some.inj H;have hnb31:=M.out;have hnc31:=O.out;obtain⟨cm,cn,co,cp,cq,cr,cs,ct⟩:=cz4 a
        try go_wp2
        replace a:=dB a;replace c:=dB c;replace HB:=dW HB;have J:0≤(b:Int):=dA;have L:b<(d.length:Int):=dA;obtain⟨g,aB,aC,aD,aE,aF,x,y,z,A,hl914_0,hi914_0,hl914_1,hi914_1⟩:=at_T81 HR0_3.out b J L;have ai:=A;have ah:=z;have ag:=y;have af:=x;cases aF;replace x:=(bc HB x :);replace y:=(bc HB y :);replace z:=(bc HB z :);replace A:=(bc HB A :);have HR914_0:=aM hi914_0;have HC914_0:=aM hl914_0;clear hi914_0 hl914_0;have HR914_1:=aM hi914_1;have HC914_1:=aM hl914_1;clear hi914_1 hl914_1;replace J:=eq_true J;replace L:=eq_true L
        refine start_ (n:=7) (S:=fun w'=>w'.cell? ⟨s,0,none⟩=some (.int .i64 j)∧w'.cell? ⟨s,1,none⟩=some (.int .i64 o)∧w'.cell? ⟨s,2,none⟩=some (.int .i64 p)∧w'.cell? ⟨s,3,none⟩=some (.slice (some g) d.length D)∧w'.cell? ⟨E,0,none⟩=some (.int .i64 m)∧w'.cell? ⟨E,1,none⟩=some (.int .i64 q)∧w'.cell? ⟨E,2,none⟩=some (.slice G l.length I)∧w'.cell? (g.add ((b).toNat*4))=some (.slice aB ((rd_T81 d b).f0).length aC)∧w'.cell? ⟨(g.add ((b).toNat*4)).block,(g.add ((b).toNat*4)).off+1,none⟩=some (.slice aD ((rd_T81 d b).f1).length aE)∧w'.cell? ⟨(g.add ((b).toNat*4)).block,(g.add ((b).toNat*4)).off+2,none⟩=some (.int .i64 ((rd_T81 d b).f2))∧w'.cell? ⟨(g.add ((b).toNat*4)).block,(g.add ((b).toNat*4)).off+3,none⟩=some (.int .i64 ((rd_T81 d b).f3))) (ds:=[]) #[false,false,false,false,false,false,false] (by kernel_rfl) rfl rfl ⟨(blk_cell a.out 0).trans rfl,(blk_cell a.out 1).trans rfl,(blk_cell a.out 2).trans rfl,(blk_cell a.out 3).trans rfl,(blk_cell c.out 0).trans rfl,(blk_cell c.out 1).trans rfl,(blk_cell c.out 2).trans rfl,((bc HB af :)),((bc HB ag :)),((bc HB ah :)),((bc HB ai :))⟩ (fun hHeld=>?_)
        generalize wr.drew=cu at a c HB HR914_0 HR914_1 x y z A hHeld ⊢
        refine pure_ (i:=0) (N:=some 28) (v:=?_) (a':=?_) #[true,false,false,false,false,false,false] rfl rfl (by kernel_rfl) (fun _ _ _ h=>h) (Or.inl ⟨by rfl,?_⟩) ?_ ?_
        rotate_left
        ·intro w';go_simp;with_reducible rfl
        rotate_left
        ·simp only[Act.put,List.setIfInBounds_toArray,List.set_cons_zero,List.set_cons_succ,i64_w,i32_w];rfl
        refine pure_ (i:=2) (N:=some 30) (v:=?_) (a':=?_) #[true,false,true,false,false,false,false] rfl rfl (by kernel_rfl) (fun _ _ _ h=>h) (Or.inl ⟨by rfl,?_⟩) ?_ ?_
        rotate_left
        ·intro w';go_simp;with_reducible rfl
        rotate_left
        ·simp only[Act.put,List.setIfInBounds_toArray,List.set_cons_zero,List.set_cons_succ,i64_w,i32_w];rfl
        refine take_ (i:=1) (N:=some 29) (v:=?_) (a':=?_) #[true,true,true,false,false,false,false] rfl rfl (by kernel_rfl) (fun _ _ _ h=>h) (Or.inl ⟨by rfl,?_⟩) hHeld ?_ ?_
        rotate_left
        ·rintro w' ⟨s0,s1,s2,s3,s4,s5,s6,s7,s8,s9,s10⟩;go_simp;with_reducible rfl
        rotate_left
        ·simp only[Act.put,List.setIfInBounds_toArray,List.set_cons_zero,List.set_cons_succ,i64_w,i32_w];rfl
        refine pure_ (i:=3) (N:=some 31) (v:=?_) (a':=?_) #[true,true,true,true,false,false,false] rfl rfl (by kernel_rfl) (fun _ _ _ h=>h) (Or.inl ⟨by rfl,?_⟩) ?_ ?_
        rotate_left
        ·intro w';go_simp;with_reducible rfl
        rotate_left
        ·simp only[Act.put,List.setIfInBounds_toArray,List.set_cons_zero,List.set_cons_succ,i64_w,i32_w];rfl
        refine take_ (i:=4) (N:=some 32) (v:=?_) (a':=?_) #[true,true,true,true,true,false,false] rfl rfl (by kernel_rfl) (fun _ _ _ h=>h) (Or.inl ⟨by rfl,?_⟩) hHeld ?_ ?_
        rotate_left
        ·rintro w' ⟨s0,s1,s2,s3,s4,s5,s6,s7,s8,s9,s10⟩;go_simp;with_reducible rfl
        rotate_left
        ·simp only[Act.put,List.setIfInBounds_toArray,List.set_cons_zero,List.set_cons_succ,i64_w,i32_w];rfl
        refine take_ (i:=5) (N:=some 33) (v:=?_) (a':=?_) #[true,true,true,true,true,true,false] rfl rfl (by kernel_rfl) (fun _ _ _ h=>h) (Or.inl ⟨by rfl,?_⟩) hHeld ?_ ?_
        rotate_left
        ·rintro w' ⟨s0,s1,s2,s3,s4,s5,s6,s7,s8,s9,s10⟩;go_simp;with_reducible rfl
        rotate_left
        ·simp only[Act.put,List.setIfInBounds_toArray,List.set_cons_zero,List.set_cons_succ,i64_w,i32_w];rfl
        refine one_ (i:=6) (N:=some 34) #[true,true,true,true,true,true,true] rfl rfl (by kernel_rfl) (by decide) (fun K hK=>?_)
        refine eX Try.func55 (spec_RuleHolds.calls bL.out (cH HR914_0) HC914_0.out (cH HR914_1) HC914_1.out (cH HR1_2) HC1_2.out) ?_
        intro b8 hb;replace a:=kB a hb;replace c:=kB c hb;replace HB:=sB hb;(try clear hb)
        refine hK.out _ _ qh22x0 (fun hHeld=>?_)
        clear hK K;refine normZ (some 34) ?_
        refine done_ (by kernel_rfl) ?_
        try go_wp2
        replace a:=dB a;replace c:=dB c;replace HB:=dW HB;have aG:0≤(b:Int):=dA;have aH:b<(d.length:Int):=dA;obtain⟨b9,bM,bN,bO,bP,ca,ab,ac,aq,ar,hl916_0,hi916_0,hl916_1,hi916_1⟩:=at_T81 HR0_3.out b aG aH;have bQ:=ar;have bR:=aq;have bS:=ac;have bT:=ab
        obtain rfl:g=b9:=(by injection ca)
        replace ab:=(bc HB ab :);replace ac:=(bc HB ac :);replace aq:=(bc HB aq :);replace ar:=(bc HB ar :);have HR916_0:=aM hi916_0;have HC916_0:=aM hl916_0;clear hi916_0 hl916_0;have HR916_1:=aM hi916_1;have HC916_1:=aM hl916_1;clear hi916_1 hl916_1;replace aG:=eq_true aG;replace aH:=eq_true aH;have aI:0≤(b:Int):=dA;have aJ:b<(d.length:Int):=dA;obtain⟨cb,cv,cw,cx,cy,cc,ad,ae,au,av,hl917_0,hi917_0,hl917_1,hi917_1⟩:=at_T81 HR0_3.out b aI aJ;have bU:=av;have bV:=au;have bW:=ae;have bX:=ad
        obtain rfl:g=cb:=(by injection cc)
        replace ad:=(bc HB ad :);replace ae:=(bc HB ae :);replace au:=(bc HB au :);replace av:=(bc HB av :);have HR917_0:=aM hi917_0;have HC917_0:=aM hl917_0;clear hi917_0 hl917_0;have HR917_1:=aM hi917_1;have HC917_1:=aM hl917_1;clear hi917_1 hl917_1;replace aI:=eq_true aI;replace aJ:=eq_true aJ;have ea_:=Option.some.inj (ab.symm.trans ad)
        injection ea_ with ea_ en_ ec_
        subst ea_;subst ec_;clear en_;have ea_:=Option.some.inj (ac.symm.trans ae)
        injection ea_ with ea_ en_ ec_
        subst ea_;subst ec_;clear en_
        refine sZ 14 (fun w'=>w'.cell? ⟨s,0,none⟩=some (.int .i64 j)∧w'.cell? ⟨s,1,none⟩=some (.int .i64 o)∧w'.cell? ⟨s,2,none⟩=some (.int .i64 p)∧w'.cell? ⟨s,3,none⟩=some (.slice (some g) d.length D)∧w'.cell? (g.add ((b).toNat*4))=some (.slice bM ((rd_T81 d b).f0).length bN)∧w'.cell? ⟨(g.add ((b).toNat*4)).block,(g.add ((b).toNat*4)).off+1,none⟩=some (.slice bO ((rd_T81 d b).f1).length bP)∧w'.cell? ⟨(g.add ((b).toNat*4)).block,(g.add ((b).toNat*4)).off+2,none⟩=some (.int .i64 ((rd_T81 d b).f2))∧w'.cell? ⟨(g.add ((b).toNat*4)).block,(g.add ((b).toNat*4)).off+3,none⟩=some (.int .i64 ((rd_T81 d b).f3))∧w'.cell? (g.add ((b).toNat*4))=some (.slice bM ((rd_T81 d b).f0).length bN)∧w'.cell? ⟨(g.add ((b).toNat*4)).block,(g.add ((b).toNat*4)).off+1,none⟩=some (.slice bO ((rd_T81 d b).f1).length bP)∧w'.cell? ⟨(g.add ((b).toNat*4)).block,(g.add ((b).toNat*4)).off+2,none⟩=some (.int .i64 ((rd_T81 d b).f2))∧w'.cell? ⟨(g.add ((b).toNat*4)).block,(g.add ((b).toNat*4)).off+3,none⟩=some (.int .i64 ((rd_T81 d b).f3))) spec_Decide.tab7 spec_Decide.bits7 ⟨(blk_cell a.out 0).trans rfl,(blk_cell a.out 1).trans rfl,(blk_cell a.out 2).trans rfl,(blk_cell a.out 3).trans rfl,((bc HB bT :)),((bc HB bS :)),((bc HB bR :)),((bc HB bQ :)),((bc HB bX :)),((bc HB bW :)),((bc HB bV :)),((bc HB bU :))⟩ fun HT_ HW_ hHeld=>?_
        generalize b8.drew=cz at a c HB HR916_0 HR916_1 HR917_0 HR917_1 ab ac aq ar ad ae au av hHeld ⊢;refine pureZ 0 (some 35) (msk 14 1) HT_.out ?_;refine pureZ 2 (some 37) (msk 14 5) HT_.out ?_;refine pureZ 6 (some 41) (msk 14 69) HT_.out ?_;refine pureZ 8 (some 43) (msk 14 325) HT_.out ?_;refine takeZ 1 (some 36) (msk 14 327) HT_.out HW_.out hHeld (hy:=q22x0) (h:=?_);refine pureZ 3 (some 38) (msk 14 335) HT_.out ?_;refine pureZ 4 (some 39) (msk 14 351) HT_.out ?_;refine takeZ 5 (some 40) (msk 14 383) HT_.out HW_.out hHeld (hy:=q22x0) (h:=?_);refine takeZ 7 (some 42) (msk 14 511) HT_.out HW_.out hHeld (hy:=q22x0) (h:=?_);refine pureZ 9 (some 44) (msk 14 1023) HT_.out ?_;refine pureZ 10 (some 45) (msk 14 2047) HT_.out ?_;refine takeZ 11 (some 46) (msk 14 4095) HT_.out HW_.out hHeld (hy:=q22x0) (h:=?_)
        refine one_Z 12 (some 47) (msk 14 8191) HT_.out fun K hK=>?_
        refine eX Try.func34 (spec_ResultOf.calls b5.out) ?_
        rintro w' ⟨nd,rfl⟩
        refine hK.out _ _ ⟨(blk_cell a.out 0).trans rfl,(blk_cell a.out 1).trans rfl,(blk_cell a.out 2).trans rfl,(blk_cell a.out 3).trans rfl,((bc HB bT :)),((bc HB bS :)),((bc HB bR :)),((bc HB bQ :)),((bc HB bX :)),((bc HB bW :)),((bc HB bV :)),((bc HB bU :))⟩ (fun hHeld=>?_)
        clear hK K;refine normZ (some 47) ?_
        refine pureZ 13 (some 4) (msk 14 16383) HT_.out ?_
        refine done_ (done_of HT_.out (by kernel_rfl)) ?_
        try go_wp2
        go_ret;exact⟨rE,cB⟩
       ·replace ap:=Bool.eq_false_iff.mpr ap;subst ap;replace H:=iF H;have H':=aM H;clear H;have hnb36:=M.out;have hnc36:=O.out;obtain⟨cA,cD,cE,cF,cG,cI,cJ,cL⟩:=cz4 a
        try go_wp2
        replace a:=dB a;replace c:=dB c;replace HB:=dW HB;have J:0≤(b:Int):=dA;have L:b<(d.length:Int):=dA;obtain⟨g,aB,aC,aD,aE,aF,x,y,z,A,hl914_0,hi914_0,hl914_1,hi914_1⟩:=at_T81 HR0_3.out b J L;have ai:=A;have ah:=z;have ag:=y;have af:=x;cases aF;replace x:=(bc HB x :);replace y:=(bc HB y :);replace z:=(bc HB z :);replace A:=(bc HB A :);have HR914_0:=aM hi914_0;have HC914_0:=aM hl914_0;clear hi914_0 hl914_0;have HR914_1:=aM hi914_1;have HC914_1:=aM hl914_1;clear hi914_1 hl914_1;replace J:=eq_true J;replace L:=eq_true L
        refine start_ (n:=7) (S:=fun w'=>w'.cell? ⟨s,0,none⟩=some (.int .i64 j)∧w'.cell? ⟨s,1,none⟩=some (.int .i64 o)∧w'.cell? ⟨s,2,none⟩=some (.int .i64 p)∧w'.cell? ⟨s,3,none⟩=some (.slice (some g) d.length D)∧w'.cell? ⟨E,0,none⟩=some (.int .i64 m)∧w'.cell? ⟨E,1,none⟩=some (.int .i64 q)∧w'.cell? ⟨E,2,none⟩=some (.slice G l.length I)∧w'.cell? (g.add ((b).toNat*4))=some (.slice aB ((rd_T81 d b).f0).length aC)∧w'.cell? ⟨(g.add ((b).toNat*4)).block,(g.add ((b).toNat*4)).off+1,none⟩=some (.slice aD ((rd_T81 d b).f1).length aE)∧w'.cell? ⟨(g.add ((b).toNat*4)).block,(g.add ((b).toNat*4)).off+2,none⟩=some (.int .i64 ((rd_T81 d b).f2))∧w'.cell? ⟨(g.add ((b).toNat*4)).block,(g.add ((b).toNat*4)).off+3,none⟩=some (.int .i64 ((rd_T81 d b).f3))) (ds:=[]) #[false,false,false,false,false,false,false] (by kernel_rfl) rfl rfl ⟨(blk_cell a.out 0).trans rfl,(blk_cell a.out 1).trans rfl,(blk_cell a.out 2).trans rfl,(blk_cell a.out 3).trans rfl,(blk_cell c.out 0).trans rfl,(blk_cell c.out 1).trans rfl,(blk_cell c.out 2).trans rfl,((bc HB af :)),((bc HB ag :)),((bc HB ah :)),((bc HB ai :))⟩ (fun hHeld=>?_)
        generalize wr.drew=cM at a c HB HR914_0 HR914_1 x y z A hHeld ⊢
        refine pure_ (i:=0) (N:=some 28) (v:=?_) (a':=?_) #[true,false,false,false,false,false,false] rfl rfl (by kernel_rfl) (fun _ _ _ h=>h) (Or.inl ⟨by rfl,?_⟩) ?_ ?_
        rotate_left
        ·intro w';go_simp;with_reducible rfl
        rotate_left
        ·simp only[Act.put,List.setIfInBounds_toArray,List.set_cons_zero,List.set_cons_succ,i64_w,i32_w];rfl
        refine pure_ (i:=2) (N:=some 30) (v:=?_) (a':=?_) #[true,false,true,false,false,false,false] rfl rfl (by kernel_rfl) (fun _ _ _ h=>h) (Or.inl ⟨by rfl,?_⟩) ?_ ?_
        rotate_left
        ·intro w';go_simp;with_reducible rfl
        rotate_left
        ·simp only[Act.put,List.setIfInBounds_toArray,List.set_cons_zero,List.set_cons_succ,i64_w,i32_w];rfl
        refine take_ (i:=1) (N:=some 29) (v:=?_) (a':=?_) #[true,true,true,false,false,false,false] rfl rfl (by kernel_rfl) (fun _ _ _ h=>h) (Or.inl ⟨by rfl,?_⟩) hHeld ?_ ?_
        rotate_left
        ·rintro w' ⟨s0,s1,s2,s3,s4,s5,s6,s7,s8,s9,s10⟩;go_simp;with_reducible rfl
        rotate_left
        ·simp only[Act.put,List.setIfInBounds_toArray,List.set_cons_zero,List.set_cons_succ,i64_w,i32_w];rfl
        refine pure_ (i:=3) (N:=some 31) (v:=?_) (a':=?_) #[true,true,true,true,false,false,false] rfl rfl (by kernel_rfl) (fun _ _ _ h=>h) (Or.inl ⟨by rfl,?_⟩) ?_ ?_
        rotate_left
        ·intro w';go_simp;with_reducible rfl
        rotate_left
        ·simp only[Act.put,List.setIfInBounds_toArray,List.set_cons_zero,List.set_cons_succ,i64_w,i32_w];rfl
        refine take_ (i:=4) (N:=some 32) (v:=?_) (a':=?_) #[true,true,true,true,true,false,false] rfl rfl (by kernel_rfl) (fun _ _ _ h=>h) (Or.inl ⟨by rfl,?_⟩) hHeld ?_ ?_
        rotate_left
        ·rintro w' ⟨s0,s1,s2,s3,s4,s5,s6,s7,s8,s9,s10⟩;go_simp;with_reducible rfl
        rotate_left
        ·simp only[Act.put,List.setIfInBounds_toArray,List.set_cons_zero,List.set_cons_succ,i64_w,i32_w];rfl
        refine take_ (i:=5) (N:=some 33) (v:=?_) (a':=?_) #[true,true,true,true,true,true,false] rfl rfl (by kernel_rfl) (fun _ _ _ h=>h) (Or.inl ⟨by rfl,?_⟩) hHeld ?_ ?_
        rotate_left
        ·rintro w' ⟨s0,s1,s2,s3,s4,s5,s6,s7,s8,s9,s10⟩;go_simp;with_reducible rfl
        rotate_left
        ·simp only[Act.put,List.setIfInBounds_toArray,List.set_cons_zero,List.set_cons_succ,i64_w,i32_w];rfl
        refine one_ (i:=6) (N:=some 34) #[true,true,true,true,true,true,true] rfl rfl (by kernel_rfl) (by decide) (fun K hK=>?_)
        refine eX Try.func55 (spec_RuleHolds.calls bL.out (cH HR914_0) HC914_0.out (cH HR914_1) HC914_1.out (cH HR1_2) HC1_2.out) ?_
        intro cN hb;replace a:=kB a hb;replace c:=kB c hb;replace HB:=sB hb;(try clear hb)
        refine hK.out _ _ qh22x0 (fun hHeld=>?_)
        clear hK K;refine normZ (some 34) ?_
        refine done_ (by kernel_rfl) ?_
        try go_wp2
        go_roundg k2
        case measure=>have:=HJ2.out;have:=HK2.out;omega
        case rel=>exact⟨(wrap64 (b+1)),rS,H',⟨by have:=HJ2.out;have:=HK2.out;omega⟩,⟨mK a⟩,⟨mK c⟩,⟨cB⟩⟩
      ·rw[if_neg X]at H;have b1:=decide_eq_false X;clear X;replace H:=bE H;obtain⟨aL,cd,H⟩:=H;obtain rfl:=Option.some.inj H;have hnb41:=M.out;have hnc41:=O.out;obtain⟨cO,cP,cQ,cR,cS,cT,cU,cV⟩:=cz4 a
       go_wp2_with (first|((with_reducible refine gF 34 ?_);refine gX (some 52) Try.func34 (spec_ResultOf.calls cd.out) ?_;rintro w' ⟨nd,rfl⟩))
       go_ret;exact⟨rE,cB⟩
end Go.Proofs.Ytpbalojiaghfhaa.PFnCompilesSmall
