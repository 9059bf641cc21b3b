import Derived.Test.YtlgndgjbfjefpaaPFnCondsy0
import Derived.Test.YtlgndgjbfjefpaaPFnCondsy4
namespace Go.Proofs.Ytlgndgjbfjefpaa.PFnConds
open Go.RowKit Go.Proofs.YtlgndgjbfjefpaaW.PrintWords Go.Proofs.YtlgndgjbfjefpaaW.PrintLast Go.Proofs.YtlgndgjbfjefpaaW.PrintMore Go.Proofs.YtlgndgjbfjefpaaW.Z
open Kd
attribute [local go_sem] isS max2_int min2_int max_two min_two max_three min_three max_four min_four
set_option linter.unusedVariables false
set_option linter.unusedSimpArgs false
def slices_Index_int_int.l0:Nat→List Int→Int→Int→Int→Option (Int)
  | 0,_,_,_,_=>none
  | k+1,ac,am,an,i=>if i<an then(if 0≤i then(if i<(ac.length:Int)then(if am=(rd ac i)then(some i)else(slices_Index_int_int.l0 k ac am an (wrap64 (i+1))))else(none))else(none))else(some (-1))
def slices_Index_int_int.f (k:Nat) (b:List Int) (l:Int):Option (Int):=slices_Index_int_int.l0 k b l (b.length:Int) 0
set_option maxHeartbeats 8000000 in
set_option maxRecDepth 100000 in
theorem slices_Index_int_int.calls {k:Nat}{D:Option Addr}{E:Nat}{b:List Int}{l:Int}{r:Int}{w:World}(h:slices_Index_int_int.f k b l=some r)(G:Kd.C (Kd.int .i64) w D b.length b)(I:b.length≤E) :
 Calls Try.prog 157 #[.slice D b.length E,.int .i64 l] w fun e w'=>e= .returned (.int .i64 r)∧Drawn0 w w':=by
 have HR0:=aM G;have HC0:=aM I;clear G I;have H:(slices_Index_int_int.l0 k b l (b.length:Int) 0)=some r:=h;clear h;have H':=aM H;clear H;go_enter Try.func157,Try.ntmps157;go_wp2
 go_loopg [8] k (fun kq aC w'=> ∃ (m:Int),aC= .int .i64 m∧Aside0 (slices_Index_int_int.l0 kq b l (b.length:Int) m=some r)∧Aside0 (kq≤k)∧Drawn0 w w')
 case atStart=>exact⟨(0),rS,H',⟨Nat.le_refl _⟩,by repeat(first|exact Drawn0.refl _|apply Drawn0.step)⟩
 case round=>
  clear H';obtain⟨m,rfl,HA,HK1,⟨m1,rfl⟩⟩:=hrel
  cases gk with
  | zero=>exact absurd HA.out (by simp[slices_Index_int_int.l0])
  | succ k1=>
   have H:=HA.out;clear HA;simp only[slices_Index_int_int.l0]at H;by_cases y:m<(b.length:Int)
   ·rw[if_pos y]at H;have aD:=decide_eq_true y;clear y;replace H:=gD H;obtain⟨bd,H⟩:=H;replace H:=gD H;obtain⟨be,H⟩:=H;by_cases J:l=(rd b m)
    ·rw[if_pos J]at H;obtain⟨aE,aF⟩:=eT J;clear J;obtain rfl:=Option.some.inj H;have u:0≤(m:Int):=dA;have v:m<(b.length:Int):=dA;obtain⟨aG,ad,aH⟩:=at_int HR0.out m u v;cases ad;replace u:=eq_true u;replace v:=eq_true v;go_wp2;go_ret
     exact⟨by first|rfl|(simp;done)|(simp[*];done),by repeat(first|exact Drawn0.refl _|apply Drawn0.step)⟩
    ·rw[if_neg J]at H;obtain⟨aE,aF⟩:=eF J;have H':=aM H;clear H;have u:0≤(m:Int):=dA;have v:m<(b.length:Int):=dA;obtain⟨aG,ad,aH⟩:=at_int HR0.out m u v;cases ad;replace u:=eq_true u;replace v:=eq_true v;go_wp2;go_roundg k1
     case measure=>exact oK
     case rel=>exact⟨(wrap64 (m+1)),rS,H',⟨oK⟩,by repeat(first|exact Drawn0.refl _|apply Drawn0.step)⟩
   ·rw[if_neg y]at H;have aD:=decide_eq_false y;clear y;obtain rfl:=Option.some.inj H;go_wp2;go_ret
    exact⟨by first|rfl|(simp;done)|(simp[*];done),by repeat(first|exact Drawn0.refl _|apply Drawn0.step)⟩
def slices_Contains_int_int.f (k:Nat) (b:List Int) (l:Int):Option (Bool):=(slices_Index_int_int.f k b l).bind fun ao=>(some (decide (ao≥0)))
set_option maxHeartbeats 8000000 in
set_option maxRecDepth 100000 in
theorem slices_Contains_int_int.calls {k:Nat}{D:Option Addr}{E:Nat}{b:List Int}{l:Int}{r:Bool}{w:World}(h:slices_Contains_int_int.f k b l=some r)(G:Kd.C (Kd.int .i64) w D b.length b)(I:b.length≤E) :
 Calls Try.prog 112 #[.slice D b.length E,.int .i64 l] w fun e w'=>e= .returned (.bool r)∧Drawn0 w w':=by
 have HR0:=aM G;have HC0:=aM I;clear G I
 unfold slices_Contains_int_int.f at h;have H:=h
 clear h;replace H:=bE H;obtain⟨ao,aI,H⟩:=H;obtain rfl:=Option.some.inj H;go_enter Try.func112,Try.ntmps112
 go_wp2_with (first|((with_reducible refine gF 157 ?_);refine gX (some 7) Try.func157 (slices_Index_int_int.calls aI.out (cC HR0.out) HC0.out) ?_;rintro w' ⟨nd,rfl⟩))
 go_ret
 exact⟨by first|rfl|(simp;done)|(simp[*];done),by repeat(first|exact Drawn0.refl _|apply Drawn0.step)⟩
def impl_RuleHolds.l0:Nat→List (S50)→Int→Int→List Int→List (S50)→Int→Int→Int→Int→List (S48)→Option (Bool)
  | 0,_,_,_,_,_,_,_,_,_,_=>none
  | k+1,i,ap,o,ae,aJ,aK,aL,aq,af,ar=>if o<ap then(if 0≤o then(if o<(i.length:Int)then((impl_CondHolds.f k ((rd_T50 i o).f0) ((rd_T50 i o).f1.f0) ((rd_T50 i o).f1.f1) ((rd_T50 i o).f2) ((rd_T50 i o).f3.f0) ((rd_T50 i o).f3.f1) aq af ar).bind fun ag=>(if ag=true then(impl_RuleHolds.l0 k i ap (wrap64 (o+1)) ae aJ aK aL aq af ar)else(some false)))else(none))else(none))else(if(ae.length:Int)=0 then(some true)else((slices_Contains_int_int.f k ae af).bind fun au=>(some au)))
def impl_RuleHolds.f (k:Nat) (j:List Int) (a:List (S50)) (p:Int) (q:Int) (s:Int) (t:Int) (n:List (S48)):Option (Bool):=impl_RuleHolds.l0 k a (a.length:Int) 0 j a p q s t n
set_option maxHeartbeats 8000000 in
set_option maxRecDepth 100000 in
theorem impl_RuleHolds.calls {k:Nat}{O:Option Addr}{U:Nat}{j:List Int}{W:Option Addr}{X:Nat}{a:List (S50)}{p:Int}{q:Int}{s:Int}{t:Int}{Y:Option Addr}{aa:Nat}{n:List (S48)}{r:Bool}{w:World}(h:impl_RuleHolds.f k j a p q s t n=some r)(av:Kd.C (Kd.int .i64) w O j.length j)(aw:j.length≤U)(ax:Kd.C k50 w W a.length a)(ay:a.length≤X)(az:Kd.C k48 w Y n.length n)(aA:n.length≤aa) :
 Calls Try.prog 38 #[.agg #[.slice O j.length U,.slice W a.length X,.int .i64 p,.int .i64 q],.agg #[.int .i64 s,.int .i64 t,.slice Y n.length aa]] w fun e w'=>e= .returned (.bool r)∧Below w.heap.size w w':=by
 have hu61:=Try.underlying61;have hu53:=Try.underlying53;have hu50:=Try.underlying50;have HR0_0:=aM av;have HC0_0:=aM aw;clear av aw;have HR0_1:=aM ax;have HC0_1:=aM ay;clear ax ay;have HR1_2:=aM az;have HC1_2:=aM aA;clear az aA;have HB:=rW w;have H:(impl_RuleHolds.l0 k a (a.length:Int) 0 j a p q s t n)=some r:=h;clear h;have H':=aM H;clear H;go_enter Try.func38,Try.ntmps38
 go_wp2_with (first|((with_reducible refine gN 2 ?_);refine boxZ 2 #[.slice O j.length U,.slice W a.length X,.int .i64 p,.int .i64 q] 61 ?_;intro aN hg bf hbox hb;have c:=aM hbox;have GW409:=gS hg;have GE409:=gS hg;replace HB:=sB hb;clear hb hbox hg)|((with_reducible refine gN 3 ?_);refine boxZ 3 #[.int .i64 s,.int .i64 t,.slice Y n.length aa] 53 ?_;intro aO hg bg hbox hb;have g:=aM hbox;have GW410:=gS hg;have GE410:=gS hg;replace HB:=sB hb;have L:=nL hg c;have M:=nG hg c;replace c:=kB c hb;clear hb hbox hg;have hnb5:=L.out;have hnc5:=M.out;obtain⟨aP,aQ,aR,aS,aT,aU,aV,aW⟩:=cz4 c))
 go_loopg [10] k (fun kq aX w'=> ∃ (d:Int),aX= .int .i64 d∧Aside0 (impl_RuleHolds.l0 kq a (a.length:Int) d j a p q s t n=some r)∧Aside0 (kq≤k)∧Aside0 (w'.heap[aN]?=some (.cells #[(.slice O j.length U),(.slice W a.length X),.int .i64 p,.int .i64 q] 61 (0,0)))∧Aside0 (w'.heap[aO]?=some (.cells #[.int .i64 s,.int .i64 t,(.slice Y n.length aa)] 53 (0,0)))∧Aside0 (Below w.heap.size w w'))
 case atStart=>exact⟨(0),rS,H',⟨Nat.le_refl _⟩,⟨mK c⟩,⟨mK g⟩,⟨cB⟩⟩
 case round=>
  clear H';(try clear aP aQ aR aS);(try clear aT aU aV aW);obtain⟨d,rfl,HA,HK1,c,g,HB⟩:=hrel
  cases gk with
  | zero=>exact absurd HA.out (by simp[impl_RuleHolds.l0])
  | succ k1=>
   have H:=HA.out;clear HA;simp only[impl_RuleHolds.l0]at H;by_cases z:d<(a.length:Int)
   ·rw[if_pos z]at H;have aY:=decide_eq_true z;clear z;replace H:=gD H;obtain⟨bh,H⟩:=H;replace H:=gD H;obtain⟨bi,H⟩:=H;replace H:=bE H;obtain⟨ag,aB,H⟩:=H;by_cases ab:ag=true
    ·subst ab;replace H:=iT H;have H':=aM H;clear H;obtain⟨aZ,a0,a1,ah,a2,a3,a4,a5,a6,a7⟩:=b6 HB (at_T50 HR0_1.out d);cases ah
     go_wp2_with (first|((with_reducible refine gN 6 ?_);refine boxZ 6 #[.int .i64 0,.int .i64 0,.int .i64 0,.int .i64 0,.int .i64 0,.int .i64 0] 50 ?_;intro a8 hg bj hbox hb;have x:=aM hbox;have GW412:=gS hg;have GE412:=gS hg;replace HB:=sB hb;have ai:=nL hg c;have aj:=nG hg c;replace c:=kB c hb;have ak:=nL hg g;have al:=nG hg g;replace g:=kB g hb;clear hb hbox hg;have hnb13:=aj.out;have hnc13:=ai.out;have hnb14:=al.out;have hnc14:=ak.out;obtain⟨bk,bl,bm,bn,bo,bp,bq,br,bs,bu,bv,bw⟩:=cz6 x;have hnb16:=M.out;have hnc16:=L.out;obtain⟨bx,bz,bA,bB,bC,bD⟩:=cz3 g)|((with_reducible refine gF 34 ?_);refine gX (some 16) Try.func34 (impl_CondHolds.calls aB.out (C_below HR1_2.out cB) HC1_2.out) ?_;intro bF hb;replace c:=kB c hb;replace g:=kB g hb;replace x:=kP x hb (.cells #[.int .i64 ((rd_T50 a d).f0),.int .i64 ((rd_T50 a d).f1.f0),.int .i64 ((rd_T50 a d).f1.f1),.int .i64 ((rd_T50 a d).f2),.int .i64 ((rd_T50 a d).f3.f0),.int .i64 ((rd_T50 a d).f3.f1)] 50 (0,0));replace HB:=sB hb;(try clear hb)))
     go_roundg k1
     case measure=>exact oK
     case rel=>exact⟨(wrap64 (d+1)),rS,H',⟨oK⟩,⟨mK c⟩,⟨mK g⟩,⟨cB⟩⟩
    ·replace ab:=Bool.eq_false_iff.mpr ab;subst ab;replace H:=iF H;obtain rfl:=Option.some.inj H;obtain⟨aZ,a0,a1,ah,a2,a3,a4,a5,a6,a7⟩:=b6 HB (at_T50 HR0_1.out d);cases ah
     go_wp2_with (first|((with_reducible refine gN 6 ?_);refine boxZ 6 #[.int .i64 0,.int .i64 0,.int .i64 0,.int .i64 0,.int .i64 0,.int .i64 0] 50 ?_;intro a8 hg bG hbox hb;have x:=aM hbox;have GW412:=gS hg;have GE412:=gS hg;replace HB:=sB hb;have ai:=nL hg c;have aj:=nG hg c;replace c:=kB c hb;have ak:=nL hg g;have al:=nG hg g;replace g:=kB g hb;clear hb hbox hg;have hnb20:=aj.out;have hnc20:=ai.out;have hnb21:=al.out;have hnc21:=ak.out;obtain⟨bH,bI,bJ,bL,bM,bN,bO,bP,bQ,bR,bS,bT⟩:=cz6 x;have hnb23:=M.out;have hnc23:=L.out;obtain⟨bU,bV,bW,bX,bY,bZ⟩:=cz3 g)|((with_reducible refine gF 34 ?_);refine gX (some 16) Try.func34 (impl_CondHolds.calls aB.out (C_below HR1_2.out cB) HC1_2.out) ?_;intro b0 hb;replace c:=kB c hb;replace g:=kB g hb;replace x:=kP x hb (.cells #[.int .i64 ((rd_T50 a d).f0),.int .i64 ((rd_T50 a d).f1.f0),.int .i64 ((rd_T50 a d).f1.f1),.int .i64 ((rd_T50 a d).f2),.int .i64 ((rd_T50 a d).f3.f0),.int .i64 ((rd_T50 a d).f3.f1)] 50 (0,0));replace HB:=sB hb;(try clear hb)))
     go_ret;exact⟨rE,cB⟩
   ·rw[if_neg z]at H;have aY:=decide_eq_false z;clear z;by_cases A:(j.length:Int)=0
    ·rw[if_pos A]at H;obtain⟨a9,ba⟩:=eT A;clear A;obtain rfl:=Option.some.inj H;have hnb27:=L.out;have hnc27:=M.out;obtain⟨b1,b5,b8,b9,ca,cb,cc,cd⟩:=cz4 c;go_wp2;go_ret;exact⟨rE,cB⟩
    ·rw[if_neg A]at H;obtain⟨a9,ba⟩:=eF A
     have ce: ¬ (j= []):=fun h_=>A (by rw[h_];rfl)
     replace H:=bE H;obtain⟨au,bb,H⟩:=H;obtain rfl:=Option.some.inj H;have hnb30:=L.out;have hnc30:=M.out;obtain⟨cf,cg,ch,ci,cj,ck,cl,cm⟩:=cz4 c;obtain⟨cn,co,cp,cq,cr,cs⟩:=cz3 g
     go_wp2_with (first|(go_at_call 112;(with_reducible refine(slices_Contains_int_int.calls bb.out ?side1 ?side2).mono ?_);(case side1=>exact cH HR0_0);(case side2=>exact HC0_0.out);rintro e w' ⟨rfl,⟨nd,rfl⟩⟩))
     go_ret;exact⟨rE,cB⟩
end Go.Proofs.Ytlgndgjbfjefpaa.PFnConds
